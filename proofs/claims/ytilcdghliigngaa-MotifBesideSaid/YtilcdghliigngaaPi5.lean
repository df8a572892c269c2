/- Part of a claim: the program logic, the contracts of the functions, their models. No condition. -/
import Derived.WalkKit
import Derived.OwnWalkIn
import Derived.TacticsInMore
import Derived.OrdersIn
import Derived.RangeFuncLeaves
import Derived.RangeFuncNested
import Derived.Maps.AppendAt
import Derived.Shelf.Abstract
import Derived.Test.YtilcdghliigngaaProg
import Derived.MapKept
import Derived.Laws.StructEq
import Derived.Laws.OwnMore
import Derived.RangeFuncRecord
import Derived.Lib.SliceRun
import Derived.Lib.AppendZeros
import Derived.Lib.AppendZerosOnto
import Derived.Lib.Overlaps
import Derived.Laws.Externs
import Derived.Test.YtilcdghliigngaaPi4
namespace Go.Proofs.Ytilcdghliigngaa
open Go.RowKit Go.Proofs.YtilcdghliigngaaGl Go.Proofs.YtilcdghliigngaaPm
set_option linter.unusedVariables false
set_option linter.unusedSimpArgs false
set_option linter.unusedSectionVars false
section
variable {nx : List (List Int)} {st : Int} {acc : List Bool} {ws : List Int} {k : Nat}
theorem map_fm {α β γ : Type} (g : β → γ) (f : α → List β) (xs : List α) : (xs.flatMap f).map g = xs.flatMap (fun x => (f x).map g) := by
  induction xs with
  | nil => rfl
  | cons x xs ih => rw [List.flatMap_cons, List.map_append, ih, List.flatMap_cons]
theorem filter_fm {α β : Type} (p : β → Bool) (f : α → List β) (xs : List α) : (xs.flatMap f).filter p = xs.flatMap (fun x => (f x).filter p) := by
  induction xs with
  | nil => rfl
  | cons x xs ih => rw [List.flatMap_cons, List.filter_append, ih, List.flatMap_cons]
theorem fm_congr {α β : Type} {f g : α → List β} {xs : List α} (h : ∀ x ∈ xs, f x = g x) : xs.flatMap f = xs.flatMap g := by
  induction xs with
  | nil => rfl
  | cons x xs ih => rw [List.flatMap_cons, List.flatMap_cons, h x (.head _), ih (fun y hy => h y (.tail _ hy))]
namespace AutOK
variable (h : AutOK nx st acc ws k)
include h
theorem autoE0 : autoE nx st acc.length = 0 := by
  have h1 := h.hs; have h2 := h.hk; have h3 := h.head
  unfold autoE
  rw [if_pos (by unfold wi; omega), if_pos h.acc, h3, if_pos (by unfold wi; omega), if_neg (fun ⟨r, hr, hn⟩ => hn (h.row r hr))]
  refine firstE_all (fun x hx => ?_)
  unfold stE
  rw [if_pos]
  rcases List.mem_append.1 hx with hx | hx
  · obtain ⟨r, hr, hx⟩ := List.mem_flatten.1 hx
    have := h.val r hr x hx; unfold wi; omega
  · obtain rfl := List.mem_singleton.1 hx
    have := h.st; unfold wi; omega
theorem machine_ok : machineP nx st acc = .ok (autN nx st acc k) := by
  unfold machineP
  rw [if_neg (by rw [h.autoE0]; decide), h.machineN_eq]
theorem word_ok (hl : ws.length ≤ 40) : wordP nx st acc.length ws = .ok (evA ws k) := by
  unfold wordP
  rw [if_neg (by rw [h.autoE0]; decide), if_neg (by omega), h.head, if_neg]
  · rfl
  · rw [firstE_all (fun x hx => symE_0 (by have := h.ws x hx; unfold wi; omega))]; decide
theorem out_len : (outA nx st acc ws k).length ≤ 3 * (ws.length + 1) := by
  unfold outA
  have : ∀ m : Nat, ((List.range m).flatMap (blkA nx st acc ws k)).length ≤ 3 * m := fun m => by
    induction m with
    | zero => simp
    | succ m ih =>
      rw [List.range_succ, List.flatMap_append, List.length_append]
      have : ([m].flatMap (blkA nx st acc ws k)).length ≤ 3 := by
        rw [List.flatMap_cons, List.flatMap_nil, List.append_nil]
        unfold blkA; split <;> split <;> simp
      omega
  exact this _
end AutOK
end
def mdTo (q n : Nat) (xs : List Int) (s c : Nat) : Int := if xs.length = 0 then 0 else xs.getD ((s * n + c) % xs.length) 0 % (q : Int)
def mdRow (q n : Nat) (xs : List Int) (s c : Nat) : List Int := (List.range c).map (mdTo q n xs s)
def mdNx (q n : Nat) (xs : List Int) (s : Nat) : List (List Int) := (List.range s).map (fun s => mdRow q n xs s n)
def wdL (n : Nat) (us : List Int) : List Int := us.map (fun x => x % (n : Int))
theorem mdRow_succ (q n : Nat) (xs : List Int) (s c : Nat) : mdRow q n xs s (c + 1) = mdRow q n xs s c ++ [mdTo q n xs s c] := by
  unfold mdRow; rw [List.range_succ, List.map_append]; rfl
theorem mdRow_len (q n : Nat) (xs : List Int) (s c : Nat) : (mdRow q n xs s c).length = c := by unfold mdRow; simp
theorem mdNx_succ (q n : Nat) (xs : List Int) (s : Nat) : mdNx q n xs (s + 1) = mdNx q n xs s ++ [mdRow q n xs s n] := by
  unfold mdNx; rw [List.range_succ, List.map_append]; rfl
theorem mdNx_len (q n : Nat) (xs : List Int) (s : Nat) : (mdNx q n xs s).length = s := by unfold mdNx; simp
theorem wdL_len (n : Nat) (us : List Int) : (wdL n us).length = us.length := by unfold wdL; simp
theorem mdTo_in {q n : Nat} {xs : List Int} (hq : 1 ≤ q) (hx : ∀ x ∈ xs, 0 ≤ x) (s c : Nat) : 0 ≤ mdTo q n xs s c ∧ mdTo q n xs s c < (q : Int) := by
  unfold mdTo
  split
  · omega
  · exact ⟨Int.emod_nonneg _ (by omega), Int.emod_lt_of_pos _ (by omega)⟩
theorem aut_made {q n s0 : Nat} {xs us : List Int} {acc : List Bool} (hq : 1 ≤ q ∧ q ≤ 8) (hn : 1 ≤ n ∧ n ≤ 4) (hs : s0 < q) (hx : ∀ x ∈ xs, 0 ≤ x) (ha : acc.length = q) (hu : ∀ x ∈ us, 0 ≤ x) : AutOK (mdNx q n xs q) (s0 : Int) acc (wdL n us) n where
  hs := by rw [mdNx_len]; omega
  hk := by omega
  row := fun r hr => by obtain ⟨s, _, rfl⟩ := List.mem_map.1 hr; exact mdRow_len ..
  val := fun r hr x hx' => by
    obtain ⟨s, _, rfl⟩ := List.mem_map.1 hr
    obtain ⟨c, _, rfl⟩ := List.mem_map.1 hx'
    rw [mdNx_len]; exact mdTo_in hq.1 hx s c
  st := by rw [mdNx_len]; omega
  acc := by rw [mdNx_len]; exact ha
  ws := fun x hx => by
    obtain ⟨y, _, rfl⟩ := List.mem_map.1 hx
    exact ⟨Int.emod_nonneg _ (by omega), Int.emod_lt_of_pos _ (by omega)⟩
end Go.Proofs.Ytilcdghliigngaa
namespace Go.Proofs.Ytilcdghliigngaa
open Go.RowKit Go.Proofs.YtilcdghliigngaaGl Go.Proofs.YtilcdghliigngaaPm
set_option linter.unusedVariables false
set_option linter.unusedSimpArgs false
set_option linter.unusedSectionVars false
section
variable {g : List Edg} {s v : Nat}
theorem getD_some {xs : List Int} {d : Nat} (h : d < xs.length) : xs[d]? = some (xs.getD d 0) := by
  simp [List.getD, h]
namespace GOK
variable (h : GOK g s v)
include h
theorem graph_0 : graphE (v : Int) g = 0 := by
  have h1 := h.hv; have h2 := h.hl
  unfold graphE
  rw [if_pos (by unfold wi; omega), if_neg (by omega)]
  refine firstE_all (fun e he => ?_)
  have := h.he e he
  unfold edgeE
  rw [if_neg (by unfold wi; omega), if_pos (by unfold wi; omega)]
theorem paths_ok : pathsP (v : Int) g (s : Int) = .ok (pathN g s v) := by
  have h1 := h.hv; have h2 := h.hs
  unfold pathsP
  rw [if_neg (by rw [h.graph_0]; decide), if_pos (by unfold wi; omega), Int.toNat_natCast]
  rfl
end GOK
end
abbrev uW (x : Int) : Int := IntKind.u64.wrap x
theorem uW_0 (x : Int) : 0 ≤ uW x := by unfold uW; rw [IntKind.wrap_u64]; omega
def mkE (v : Nat) (x : Edg) : Edg := ⟨uW x.src % (v : Int), uW x.dst % (v : Int), 1 + uW x.len % 16⟩
def mkG (v : Nat) (es : List Edg) : List Edg := es.map (mkE v)
theorem mkG_ok {v s : Nat} {es : List Edg} (hv : 1 ≤ v ∧ v ≤ 40) (hs : s < v) (hl : es.length ≤ 120) : GOK (mkG v es) s v where
  hv := hv
  hs := hs
  hl := by unfold mkG; simpa using hl
  he := fun e he => by
    obtain ⟨x, _, rfl⟩ := List.mem_map.1 he
    have h1 := uW_0 x.len
    unfold mkE
    exact ⟨Int.emod_nonneg _ (by omega), Int.emod_lt_of_pos _ (by omega), Int.emod_nonneg _ (by omega), Int.emod_lt_of_pos _ (by omega), by dsimp only; omega, by dsimp only; omega⟩
end Go.Proofs.Ytilcdghliigngaa
namespace Go.Proofs.Ytilcdghliigngaa
open Go.RowKit Go.Proofs.YtilcdghliigngaaGl Go.Proofs.YtilcdghliigngaaPm
set_option linter.unusedVariables false
set_option linter.unusedSimpArgs false
set_option linter.unusedSectionVars false
theorem once_sim {h : Int} (hh : 1 ≤ h ∧ h ≤ 1048576) {c cum x V : Nat → Int} {F : Nat → Bool} (hc : ∀ t, 0 ≤ c t) (h0 : cum 0 = 0) (hs : ∀ t, cum (t + 1) = cum t + c t) (hb : ∀ t, cum t ≤ 10000) (hF : ∀ t, F t = true ↔ cum t < h ∧ h ≤ cum (t + 1))
    (hx : ∀ t, x t = c t + (if 1 ≤ t ∧ F (t - 1) = true then -32768 else 0)) (hV0 : V 0 = 0) (hV : ∀ t, V (t + 1) = (stepV (setTh (onceP 0) h) (V t) (x t)).1) (t : Nat) : (stepV (setTh (onceP 0) h) (V t) (x t)).2 = F t := by
  have hn : ∀ t, 0 ≤ cum t := fun t => by
    induction t with
    | zero => omega
    | succ t ih => have := hs t; have := hc t; omega
  have hcb : ∀ t, c t ≤ 10000 := fun t => by have := hs t; have := hb (t + 1); have := hn t; omega
  have key : ∀ t, (cum t < h → V t = cum t) ∧ (h ≤ cum t → (1 ≤ t ∧ F (t - 1) = true → V t = 0) ∧ (¬ (1 ≤ t ∧ F (t - 1) = true) → V t ≤ cum t - 32768)) := fun t => by
    induction t with
    | zero => exact ⟨fun _ => by rw [hV0, h0], fun hle => by omega⟩
    | succ t ih =>
      have e1 := hs t; have e2 := hc t; have e3 := hcb t; have e4 := hb t; have e5 := hb (t + 1); have e6 := hn t; have e7 := hF t; have e8 := hx t
      rw [hV t, stepV_once]
      simp only [Nat.add_sub_cancel, show 1 ≤ t + 1 from by omega, true_and]
      by_cases a1 : cum t < h
      · have a2 : ¬ (1 ≤ t ∧ F (t - 1) = true) := fun c => by
          have := (hF (t - 1)).1 c.2
          rw [Nat.sub_add_cancel c.1] at this; omega
        rw [if_neg a2] at e8
        rw [ih.1 a1, e8]
        by_cases a3 : h ≤ cum (t + 1)
        · rw [if_neg (by omega)]
          exact ⟨fun c => by omega, fun _ => ⟨fun _ => rfl, fun c => absurd (e7.2 ⟨a1, a3⟩) c⟩⟩
        · rw [if_pos (by omega)]
          exact ⟨fun _ => by dsimp only; omega, fun c => by omega⟩
      · have a2 : ¬ F t = true := fun c => a1 (e7.1 c).1
        obtain ⟨b1, b2⟩ := ih.2 (by omega)
        refine ⟨fun c => by omega, fun _ => ⟨fun c => absurd c a2, fun _ => ?_⟩⟩
        by_cases a4 : 1 ≤ t ∧ F (t - 1) = true
        · rw [if_pos a4] at e8
          rw [b1 a4, e8, if_pos (by omega)]; dsimp only; omega
        · rw [if_neg a4] at e8
          have := b2 a4
          rw [e8, if_pos (by omega)]; dsimp only; omega
  obtain ⟨k1, k2⟩ := key t
  have e1 := hs t; have e2 := hc t; have e3 := hcb t; have e4 := hb t; have e5 := hb (t + 1); have e6 := hn t; have e7 := hF t; have e8 := hx t
  have fin : ∀ b : Bool, (b = true ↔ F t = true) → b = F t := fun b e => by cases b <;> cases hh : F t <;> simp_all
  refine fin _ ?_
  rw [stepV_once, e7]
  by_cases a1 : cum t < h
  · have a2 : ¬ (1 ≤ t ∧ F (t - 1) = true) := fun c => by
      have := (hF (t - 1)).1 c.2
      rw [Nat.sub_add_cancel c.1] at this; omega
    rw [if_neg a2] at e8
    rw [k1 a1, e8]
    by_cases a3 : h ≤ cum (t + 1)
    · rw [if_neg (by omega)]; exact ⟨fun _ => ⟨a1, a3⟩, fun _ => rfl⟩
    · rw [if_pos (by omega)]; exact ⟨fun c => absurd c (by simp), fun c => absurd c.2 a3⟩
  · obtain ⟨b1, b2⟩ := k2 (by omega)
    have : max (-1048576) (min 1048576 (V t + max (-4194304) (min 4194304 (x t)))) < h := by
      by_cases a4 : 1 ≤ t ∧ F (t - 1) = true
      · rw [if_pos a4] at e8; rw [b1 a4, e8]; omega
      · rw [if_neg a4] at e8; have := b2 a4; rw [e8]; omega
    rw [if_pos this]
    exact ⟨fun c => absurd c (by simp), fun c => absurd c.1 a1⟩
abbrev CLA := List Int × Int
def toN (v : Nat) (c : CLA) : Nat := if c.2 < 0 then v else c.2.toNat
structure HOK (cs : List CLA) (v : Nat) : Prop where
  hv : 1 ≤ v ∧ v ≤ 30
  hl : cs.length ≤ 60
  hi : ∀ c ∈ cs, c.1.length ≤ 5 ∧ c.1.Nodup ∧ (∀ t ∈ c.1, 0 ≤ t ∧ t < (v : Int)) ∧ -1 ≤ c.2 ∧ c.2 < (v : Int)
def holdB (W : List Int) (v : Nat) (c : CLA) : Bool := decide (W.getD (toN v c) 0 = 0) && c.1.all fun t => decide (0 < W.getD t.toNat 0)
def newL (W : List Int) (v : Nat) (cs : List CLA) : List Int := (cs.filter (holdB W v)).map fun c => (toN v c : Int)
def setL (W : List Int) (r : Int) (l : List Int) : List Int := l.foldl (fun A t => A.set t.toNat r) W
def rnL (cs : List CLA) (v : Nat) : Nat → List Int
  | 0 => List.replicate (v + 1) 0
  | k + 1 => setL (rnL cs v k) ((k + 1 : Nat) : Int) (newL (rnL cs v k) v cs)
def rnd (cs : List CLA) (v k d : Nat) : Int := (rnL cs v k).getD d 0
theorem setL_len (r : Int) : ∀ (l W : List Int), (setL W r l).length = W.length
  | [], W => rfl
  | t :: l, W => by unfold setL; rw [List.foldl_cons]; exact (setL_len r l _).trans (by simp)
theorem setL_get (r : Int) (d : Nat) : ∀ (l W : List Int), (∀ t ∈ l, 0 ≤ t) → d < W.length → (setL W r l).getD d 0 = if (d : Int) ∈ l then r else W.getD d 0
  | [], W, _, _ => by simp [setL]
  | t :: l, W, h0, hd => by
    have ht := h0 t (.head _)
    have ih := setL_get r d l (W.set t.toNat r) (fun x hx => h0 x (.tail _ hx)) (by simpa using hd)
    unfold setL at ih ⊢
    rw [List.foldl_cons, ih, getD_set]
    by_cases c1 : (d : Int) ∈ l
    · rw [if_pos c1, if_pos (.tail _ c1)]
    · rw [if_neg c1]
      by_cases c2 : t = (d : Int)
      · rw [if_pos ⟨by omega, by omega⟩, if_pos (by rw [c2]; exact .head _)]
      · rw [if_neg (fun c => c2 (by omega)), if_neg (fun c => by
          rcases List.mem_cons.1 c with c | c
          · exact c2 c.symm
          · exact c1 c)]
section
variable {cs : List CLA} {v : Nat}
theorem rnL_len (k : Nat) : (rnL cs v k).length = v + 1 := by
  induction k with
  | zero => simp [rnL]
  | succ k ih => rw [rnL, setL_len, ih]
theorem newL_mem {W : List Int} {d : Nat} : (d : Int) ∈ newL W v cs ↔ W.getD d 0 = 0 ∧ ∃ c ∈ cs, toN v c = d ∧ ∀ t ∈ c.1, 0 < W.getD t.toNat 0 := by
  unfold newL
  rw [List.mem_map]
  constructor
  · rintro ⟨c, hc, e⟩
    obtain ⟨h1, h2⟩ := List.mem_filter.1 hc
    have e' : toN v c = d := by omega
    unfold holdB at h2
    rw [Bool.and_eq_true, decide_eq_true_eq, List.all_eq_true, e'] at h2
    exact ⟨h2.1, c, h1, e', fun t ht => by simpa using h2.2 t ht⟩
  · rintro ⟨h1, c, hc, e, h2⟩
    refine ⟨c, List.mem_filter.2 ⟨hc, ?_⟩, by rw [e]⟩
    unfold holdB
    rw [Bool.and_eq_true, decide_eq_true_eq, List.all_eq_true, e]
    exact ⟨h1, fun t ht => by simpa using h2 t ht⟩
theorem rnd_0 (d : Nat) : rnd cs v 0 d = 0 := by
  unfold rnd rnL
  by_cases hd : d < v + 1
  · simp [List.getD, hd]
  · simp [List.getD, hd]
theorem rnd_S {k d : Nat} (hd : d < v + 1) : rnd cs v (k + 1) d = if rnd cs v k d = 0 ∧ ∃ c ∈ cs, toN v c = d ∧ ∀ t ∈ c.1, 0 < rnd cs v k t.toNat then ((k + 1 : Nat) : Int) else rnd cs v k d := by
  have h1 := setL_get ((k + 1 : Nat) : Int) d (newL (rnL cs v k) v cs) (rnL cs v k) (fun t ht => by
    obtain ⟨c, _, rfl⟩ := List.mem_map.1 ht; omega) (by rw [rnL_len]; exact hd)
  have h2 : rnd cs v (k + 1) d = (setL (rnL cs v k) ((k + 1 : Nat) : Int) (newL (rnL cs v k) v cs)).getD d 0 := rfl
  rw [h2, h1]
  by_cases c : (d : Int) ∈ newL (rnL cs v k) v cs
  · rw [if_pos c]; exact (if_pos (newL_mem.1 c)).symm
  · rw [if_neg c]; exact (if_neg (fun c' => c (newL_mem.2 c'))).symm
theorem rnd_b {d : Nat} (hd : d < v + 1) : ∀ k, 0 ≤ rnd cs v k d ∧ rnd cs v k d ≤ (k : Int)
  | 0 => by rw [rnd_0]; omega
  | k + 1 => by
    have := rnd_b hd k
    rw [rnd_S hd]; split <;> omega
theorem rnd_keep {d : Nat} (hd : d < v + 1) {k : Nat} (h : 0 < rnd cs v k d) : ∀ j, rnd cs v (k + j) d = rnd cs v k d
  | 0 => rfl
  | j + 1 => by
    rw [← Nat.add_assoc, rnd_S hd, rnd_keep hd h j, if_neg (fun c => by omega)]
theorem rnd_why {d : Nat} (hd : d < v + 1) : ∀ {k : Nat}, 0 < rnd cs v k d → ∃ r : Nat, rnd cs v k d = ((r + 1 : Nat) : Int) ∧ r + 1 ≤ k ∧ rnd cs v r d = 0 ∧ ∃ c ∈ cs, toN v c = d ∧ ∀ t ∈ c.1, 0 < rnd cs v r t.toNat
  | 0, h => by rw [rnd_0] at h; omega
  | k + 1, h => by
    rw [rnd_S hd] at h ⊢
    by_cases c : rnd cs v k d = 0 ∧ ∃ c ∈ cs, toN v c = d ∧ ∀ t ∈ c.1, 0 < rnd cs v k t.toNat
    · rw [if_pos c]; exact ⟨k, rfl, Nat.le_refl _, c.1, c.2⟩
    · rw [if_neg c] at h ⊢
      obtain ⟨r, h1, h2, h3⟩ := rnd_why hd h
      exact ⟨r, h1, by omega, h3⟩
def lev (cs : List CLA) (v d : Nat) : Int := rnd cs v (v + 2) d
namespace HOK
variable (h : HOK cs v)
include h
theorem toN_lt {c : CLA} (hc : c ∈ cs) : toN v c < v + 1 := by
  have := h.hi c hc
  unfold toN; split <;> omega
theorem prem_lt {c : CLA} (hc : c ∈ cs) {t : Int} (ht : t ∈ c.1) : 0 ≤ t ∧ t.toNat < v + 1 ∧ t.toNat < v := by
  have := (h.hi c hc).2.2.1 t ht; omega
theorem lev_at {d k : Nat} (hd : d < v + 1) (hk : k ≤ v + 2) (hp : 0 < rnd cs v k d) : lev cs v d = rnd cs v k d := by
  have := rnd_keep hd hp (v + 2 - k)
  unfold lev; rw [← this]; congr 1; omega
theorem lev_ge {d k : Nat} (hd : d < v + 1) (hk : k ≤ v + 2) (h0 : 0 < lev cs v d) (h1 : lev cs v d ≤ (k : Int)) : 0 < rnd cs v k d := by
  obtain ⟨r, e1, e2, e3, e4⟩ := rnd_why hd h0
  have : rnd cs v (r + 1) d = ((r + 1 : Nat) : Int) := by rw [rnd_S hd, if_pos ⟨e3, e4⟩]
  have h2 := rnd_keep (cs := cs) hd (k := r + 1) (by omega) (k - (r + 1))
  have e1' : lev cs v d = ((r + 1 : Nat) : Int) := e1
  rw [show r + 1 + (k - (r + 1)) = k by omega, this] at h2
  omega
theorem q2 {d : Nat} (hd : d < v + 1) (h0 : 0 < lev cs v d) : ∃ c ∈ cs, toN v c = d ∧ ∀ t ∈ c.1, 0 < lev cs v t.toNat ∧ lev cs v t.toNat < lev cs v d := by
  obtain ⟨r, e1, e2, e3, c, hc, e4, e5⟩ := rnd_why hd h0
  refine ⟨c, hc, e4, fun t ht => ?_⟩
  have ht' := h.prem_lt hc ht
  have h1 := e5 t ht
  have h2 := h.lev_at ht'.2.1 (k := r) (by omega) h1
  have h3 := (rnd_b (cs := cs) ht'.2.1 r).2
  have e1' : lev cs v d = ((r + 1 : Nat) : Int) := e1
  omega
theorem chain {d : Nat} (hd : d < v + 1) {r : Nat} (h0 : lev cs v d = ((r + 2 : Nat) : Int)) : ∃ e, e < v + 1 ∧ lev cs v e = ((r + 1 : Nat) : Int) := by
  obtain ⟨r', e1, e2, e3, c, hc, e4, e5⟩ := rnd_why hd (k := v + 2) (show 0 < lev cs v d by omega)
  have e1' : lev cs v d = ((r' + 1 : Nat) : Int) := e1
  have hr : r' = r + 1 := by omega
  subst hr
  refine Decidable.byContradiction fun hn => ?_
  have hall : ∀ t ∈ c.1, 0 < rnd cs v r t.toNat := fun t ht => by
    have ht' := h.prem_lt hc ht
    have h1 := e5 t ht
    have h2 := h.lev_at ht'.2.1 (k := r + 1) (by omega) h1
    have h3 := (rnd_b (cs := cs) ht'.2.1 (r + 1)).2
    refine h.lev_ge ht'.2.1 (by omega) (by omega) ?_
    have : lev cs v t.toNat ≠ ((r + 1 : Nat) : Int) := fun e => hn ⟨_, ht'.2.1, e⟩
    omega
  have hz : rnd cs v r d = 0 := by
    have hb := rnd_b (cs := cs) hd r
    by_cases c0 : rnd cs v r d = 0
    · exact c0
    · have := rnd_keep (cs := cs) hd (k := r) (by omega) 1; omega
  rw [rnd_S hd, if_pos ⟨hz, c, hc, e4, hall⟩] at e3
  omega
theorem count : ∀ (r : Nat), (∃ d, d < v + 1 ∧ lev cs v d = (r : Int)) → r ≤ ((List.range (v + 1)).filter (fun d => decide (0 < lev cs v d ∧ lev cs v d ≤ (r : Int)))).length
  | 0, _ => Nat.zero_le _
  | 1, ⟨d, hd, e⟩ => by
    refine List.length_pos_of_mem (a := d) (List.mem_filter.2 ⟨List.mem_range.2 hd, ?_⟩)
    simp only [decide_eq_true_eq]; omega
  | r + 2, ⟨d, hd, e⟩ => by
    have ih := count (r + 1) (h.chain hd e)
    have := filter_lt (p := fun d => decide (0 < lev cs v d ∧ lev cs v d ≤ ((r + 1 : Nat) : Int))) (q := fun d => decide (0 < lev cs v d ∧ lev cs v d ≤ ((r + 2 : Nat) : Int))) (l := List.range (v + 1)) (x := d) (fun y hy => by simp only [decide_eq_true_eq] at hy ⊢; omega) (List.mem_range.2 hd) (by simp only [decide_eq_true_eq]; omega) (by simp only [decide_eq_true_eq]; omega)
    omega
theorem q3 {d : Nat} (hd : d < v + 1) : 0 ≤ lev cs v d ∧ lev cs v d ≤ (v : Int) + 1 := by
  have hb := rnd_b (cs := cs) hd (v + 2)
  have h1 := h.count (lev cs v d).toNat ⟨d, hd, by have : 0 ≤ lev cs v d := hb.1; omega⟩
  have h2 := List.length_filter_le (fun x => decide (0 < lev cs v x ∧ lev cs v x ≤ ((lev cs v d).toNat : Int))) (List.range (v + 1))
  rw [List.length_range] at h2
  have : 0 ≤ lev cs v d := hb.1
  omega
theorem q1 {c : CLA} (hc : c ∈ cs) {m : Nat} (hm : m ≤ v + 1) (hp : ∀ t ∈ c.1, 0 < lev cs v t.toNat ∧ lev cs v t.toNat ≤ (m : Int)) : 0 < lev cs v (toN v c) ∧ lev cs v (toN v c) ≤ (m : Int) + 1 := by
  have hd := h.toN_lt hc
  have hall : ∀ t ∈ c.1, 0 < rnd cs v m t.toNat := fun t ht => h.lev_ge (h.prem_lt hc ht).2.1 (by omega) (hp t ht).1 (hp t ht).2
  have hb := rnd_b (cs := cs) hd m
  have hpos : 0 < rnd cs v (m + 1) (toN v c) := by
    rw [rnd_S hd]
    by_cases c0 : rnd cs v m (toN v c) = 0
    · rw [if_pos ⟨c0, c, hc, rfl, hall⟩]; omega
    · rw [if_neg (fun cc => c0 cc.1)]; omega
  have h1 := h.lev_at hd (k := m + 1) (by omega) hpos
  have h2 := rnd_b (cs := cs) hd (m + 1)
  omega
end HOK
end
end Go.Proofs.Ytilcdghliigngaa
namespace Go.Proofs.Ytilcdghliigngaa
open Go.RowKit Go.Proofs.YtilcdghliigngaaGl Go.Proofs.YtilcdghliigngaaPm
set_option linter.unusedVariables false
set_option linter.unusedSimpArgs false
set_option linter.unusedSectionVars false
section
variable {cs : List CLA} {v : Nat}
def mxB (l : List Int) : Int := l.foldl max 0
theorem mxB_acc : ∀ (l : List Int) (a : Int), a ≤ l.foldl max a ∧ (∀ x ∈ l, x ≤ l.foldl max a) ∧ ∀ m, a ≤ m → (∀ x ∈ l, x ≤ m) → l.foldl max a ≤ m
  | [], a => ⟨Int.le_refl _, fun x hx => absurd hx (by simp), fun m h _ => h⟩
  | y :: l, a => by
    obtain ⟨h1, h2, h3⟩ := mxB_acc l (max a y)
    rw [List.foldl_cons]
    refine ⟨by omega, fun x hx => ?_, fun m hm hx => h3 m (by have := hx y (.head _); omega) (fun z hz => hx z (.tail _ hz))⟩
    rcases List.mem_cons.1 hx with rfl | hx
    · omega
    · exact h2 x hx
def mx (cs : List CLA) (v : Nat) (c : CLA) : Int := mxB (c.1.map fun t => lev cs v t.toNat)
theorem mx_0 (c : CLA) : 0 ≤ mx cs v c := (mxB_acc _ 0).1
theorem mx_ge {c : CLA} {t : Int} (ht : t ∈ c.1) : lev cs v t.toNat ≤ mx cs v c := (mxB_acc _ 0).2.1 _ (List.mem_map_of_mem ht)
theorem mx_le {c : CLA} {m : Int} (hm : 0 ≤ m) (h : ∀ t ∈ c.1, lev cs v t.toNat ≤ m) : mx cs v c ≤ m := (mxB_acc _ 0).2.2 m hm (fun x hx => by
  obtain ⟨t, ht, rfl⟩ := List.mem_map.1 hx; exact h t ht)
def rdy (cs : List CLA) (v : Nat) (c : CLA) : Prop := ∀ t ∈ c.1, 0 < lev cs v t.toNat
instance (cs : List CLA) (v : Nat) (c : CLA) : Decidable (rdy cs v c) := inferInstanceAs (Decidable (∀ t ∈ c.1, _))
def claAt (cs : List CLA) (v d : Nat) : CLA := cs.getD (d - (v + 1)) ([], 0)
def hoF (cs : List CLA) (v t d : Nat) : Bool := if d < v + 1 then decide (0 < lev cs v d ∧ (t : Int) = 2 * lev cs v d) else decide (rdy cs v (claAt cs v d) ∧ (t : Int) = 2 * mx cs v (claAt cs v d) + 1)
def cT (cs : List CLA) (v d t : Nat) : Int := sumI (fun c : CLA => if toN v c = d ∧ rdy cs v c ∧ (t : Int) = 2 * mx cs v c + 2 then 1 else 0) cs
def cumT (cs : List CLA) (v d t : Nat) : Int := sumI (fun c : CLA => if toN v c = d ∧ rdy cs v c ∧ 2 * mx cs v c + 2 < (t : Int) then 1 else 0) cs
def cC (cs : List CLA) (v : Nat) (c : CLA) (t : Nat) : Int := sumI (fun p : Int => if 0 < lev cs v p.toNat ∧ (t : Int) = 2 * lev cs v p.toNat + 1 then 1 else 0) c.1 + (if c.1.length = 0 ∧ t = 1 then 1 else 0)
def cumC (cs : List CLA) (v : Nat) (c : CLA) (t : Nat) : Int := sumI (fun p : Int => if 0 < lev cs v p.toNat ∧ 2 * lev cs v p.toNat + 1 < (t : Int) then 1 else 0) c.1 + (if c.1.length = 0 ∧ 1 < t then 1 else 0)
theorem cnt_all {α : Type} {P : α → Prop} [DecidablePred P] : ∀ {l : List α}, (l.length : Int) ≤ sumI (fun x => if P x then 1 else 0) l ↔ ∀ x ∈ l, P x
  | [] => ⟨fun _ x hx => absurd hx (by simp), fun _ => by simp [sumI]⟩
  | x :: l => by
    have ih := cnt_all (P := P) (l := l)
    have hle := sumI_le (f := fun x => if P x then (1 : Int) else 0) (xs := l) (fun y _ => by split <;> omega)
    simp only [sumI, List.length_cons, List.forall_mem_cons]
    by_cases c : P x
    · rw [if_pos c]
      constructor
      · intro h; exact ⟨c, ih.1 (by omega)⟩
      · intro h; have := ih.2 h.2; omega
    · rw [if_neg c]
      constructor
      · intro h; exfalso; omega
      · intro h; exact absurd h.1 c
theorem cnt_any {α : Type} {P : α → Prop} [DecidablePred P] {l : List α} : 1 ≤ sumI (fun x => if P x then 1 else 0) l ↔ ∃ x ∈ l, P x := by
  constructor
  · intro h
    refine Decidable.byContradiction fun hn => ?_
    rw [sumI_zero (fun x hx => if_neg (fun c => hn ⟨x, hx, c⟩))] at h; omega
  · rintro ⟨x, hx, c⟩
    exact sumI_pos (fun y _ => by split <;> omega) hx (by rw [if_pos c]; exact Int.le_refl _)
theorem cnt_nn {α : Type} {P : α → Prop} [DecidablePred P] (l : List α) : 0 ≤ sumI (fun x => if P x then (1 : Int) else 0) l ∧ sumI (fun x => if P x then (1 : Int) else 0) l ≤ (l.length : Int) :=
  ⟨sumI_nonneg (fun y _ => by split <;> omega), sumI_le (fun y _ => by split <;> omega)⟩
namespace HOK
variable (h : HOK cs v)
include h
theorem cl_ready {c : CLA} (hc : c ∈ cs) (hr : rdy cs v c) : 0 < lev cs v (toN v c) ∧ lev cs v (toN v c) ≤ mx cs v c + 1 ∧ mx cs v c ≤ (v : Int) + 1 := by
  have h0 := mx_0 (cs := cs) (v := v) c
  have hm : mx cs v c ≤ (v : Int) + 1 := mx_le (by omega) (fun t ht => (h.q3 (h.prem_lt hc ht).2.1).2)
  have := h.q1 hc (m := (mx cs v c).toNat) (by omega) (fun t ht => ⟨hr t ht, by have := mx_ge (cs := cs) (v := v) ht; omega⟩)
  exact ⟨this.1, by omega, hm⟩
theorem cl_first {d : Nat} (hd : d < v + 1) (h0 : 0 < lev cs v d) : ∃ c ∈ cs, toN v c = d ∧ rdy cs v c ∧ mx cs v c + 1 = lev cs v d := by
  obtain ⟨c, hc, e, hp⟩ := h.q2 hd h0
  have hr : rdy cs v c := fun t ht => (hp t ht).1
  have h1 := h.cl_ready hc hr
  have h2 : mx cs v c ≤ lev cs v d - 1 := mx_le (by omega) (fun t ht => by have := (hp t ht).2; omega)
  rw [e] at h1
  exact ⟨c, hc, e, hr, by omega⟩
theorem thing {d : Nat} (hd : d < v + 1) (t : Nat) : hoF cs v t d = true ↔ cumT cs v d t < 1 ∧ 1 ≤ cumT cs v d (t + 1) := by
  unfold hoF cumT
  rw [if_pos hd, decide_eq_true_eq, cnt_any]
  have hn : (sumI (fun c : CLA => if toN v c = d ∧ rdy cs v c ∧ 2 * mx cs v c + 2 < (t : Int) then 1 else 0) cs < 1) ↔ ¬ ∃ c ∈ cs, toN v c = d ∧ rdy cs v c ∧ 2 * mx cs v c + 2 < (t : Int) := by
    rw [← cnt_any]; omega
  rw [hn]
  constructor
  · rintro ⟨h1, h2⟩
    obtain ⟨c, hc, e1, e2, e3⟩ := h.cl_first hd h1
    refine ⟨fun ⟨c', hc', e4, e5, e6⟩ => ?_, ⟨c, hc, e1, e2, by omega⟩⟩
    have := (h.cl_ready hc' e5).2.1
    rw [e4] at this; omega
  · rintro ⟨h1, c', hc', e4, e5, e6⟩
    have h3 := h.cl_ready hc' e5
    rw [e4] at h3
    obtain ⟨c, hc, e1, e2, e3⟩ := h.cl_first hd h3.1
    refine ⟨h3.1, ?_⟩
    have : ¬ 2 * mx cs v c + 2 < (t : Int) := fun hlt => h1 ⟨c, hc, e1, e2, hlt⟩
    omega
theorem clause {i : Nat} (hi : i < cs.length) (t : Nat) : hoF cs v t (v + 1 + i) = true ↔ cumC cs v (cs.getD i ([], 0)) t < max 1 ((cs.getD i ([], 0)).1.length : Int) ∧ max 1 ((cs.getD i ([], 0)).1.length : Int) ≤ cumC cs v (cs.getD i ([], 0)) (t + 1) := by
  have ei : claAt cs v (v + 1 + i) = cs.getD i ([], 0) := by unfold claAt; rw [show v + 1 + i - (v + 1) = i by omega]
  unfold hoF cumC
  rw [if_neg (by omega), decide_eq_true_eq, ei]
  generalize cs.getD i ([], 0) = c
  have h0 := mx_0 (cs := cs) (v := v) c
  by_cases he : c.1.length = 0
  · have hn : c.1 = [] := List.eq_nil_of_length_eq_zero he
    have hr : rdy cs v c := fun t ht => by rw [hn] at ht; cases ht
    have hm : mx cs v c = 0 := by unfold mx; rw [hn]; rfl
    rw [hn, hm]
    simp only [sumI, List.length_nil, true_and]
    constructor
    · rintro ⟨_, h2⟩
      rw [if_neg (by omega), if_pos (by omega)]; omega
    · rintro ⟨h1, h2⟩
      refine ⟨hr, ?_⟩
      split at h1
      · omega
      · split at h2
        · omega
        · omega
  · rw [if_neg (fun c => he c.1), if_neg (fun c => he c.1), Int.add_zero, Int.add_zero, show max 1 (c.1.length : Int) = (c.1.length : Int) by omega, cnt_all]
    have hn : (sumI (fun p : Int => if 0 < lev cs v p.toNat ∧ 2 * lev cs v p.toNat + 1 < (t : Int) then 1 else 0) c.1 < (c.1.length : Int)) ↔ ¬ ∀ p ∈ c.1, 0 < lev cs v p.toNat ∧ 2 * lev cs v p.toNat + 1 < (t : Int) := by
      rw [← cnt_all]; omega
    rw [hn]
    obtain ⟨p0, hp0⟩ := List.exists_mem_of_length_pos (l := c.1) (by omega)
    constructor
    · rintro ⟨h1, h2⟩
      refine ⟨fun hall => ?_, fun p hp => ⟨h1 p hp, by have := mx_ge (cs := cs) (v := v) hp; omega⟩⟩
      have h3 : 1 ≤ (t : Int) := by omega
      have := mx_le (cs := cs) (v := v) (c := c) (m := ((t : Int) - 2) / 2) (by have := hall p0 hp0; omega) (fun p hp => by have := (hall p hp).2; omega)
      omega
    · rintro ⟨h1, h2⟩
      have hr : rdy cs v c := fun p hp => (h2 p hp).1
      refine ⟨hr, ?_⟩
      have h3 := mx_le (cs := cs) (v := v) (c := c) (m := (t : Int) / 2) (by omega) (fun p hp => by have := (h2 p hp).2; omega)
      have h4 : 2 * mx cs v c + 1 ≤ (t : Int) := by
        have := mx_le (cs := cs) (v := v) (c := c) (m := ((t : Int) - 1) / 2) (by have := h2 p0 hp0; omega) (fun p hp => by have := (h2 p hp).2; omega)
        have := (h2 p0 hp0).2; have := (h2 p0 hp0).1
        omega
      have h5 : ¬ 2 * mx cs v c + 1 < (t : Int) := fun hlt => h1 (fun p hp => ⟨hr p hp, by have := mx_ge (cs := cs) (v := v) hp; omega⟩)
      omega
theorem cT_ok (d : Nat) : (∀ t, 0 ≤ cT cs v d t) ∧ cumT cs v d 0 = 0 ∧ (∀ t, cumT cs v d (t + 1) = cumT cs v d t + cT cs v d t) ∧ ∀ t, cumT cs v d t ≤ 10000 := by
  have hl := h.hl
  refine ⟨fun t => (cnt_nn _).1, sumI_zero (fun c hc => if_neg (fun cc => by have := mx_0 (cs := cs) (v := v) c; have := cc.2.2; omega)), fun t => ?_, fun t => ?_⟩
  · unfold cumT cT
    rw [← sumI_add]
    refine sumI_congr (fun c hc => ?_)
    by_cases c1 : toN v c = d ∧ rdy cs v c
    · by_cases c2 : 2 * mx cs v c + 2 < (t : Int)
      · rw [if_pos ⟨c1.1, c1.2, by omega⟩, if_pos ⟨c1.1, c1.2, c2⟩, if_neg (fun cc => by have := cc.2.2; omega)]; rfl
      · by_cases c3 : (t : Int) = 2 * mx cs v c + 2
        · rw [if_pos ⟨c1.1, c1.2, by omega⟩, if_neg (fun cc => c2 cc.2.2), if_pos ⟨c1.1, c1.2, c3⟩]; rfl
        · rw [if_neg (fun cc => by have := cc.2.2; omega), if_neg (fun cc => c2 cc.2.2), if_neg (fun cc => c3 cc.2.2)]; rfl
    · rw [if_neg (fun cc => c1 ⟨cc.1, cc.2.1⟩), if_neg (fun cc => c1 ⟨cc.1, cc.2.1⟩), if_neg (fun cc => c1 ⟨cc.1, cc.2.1⟩)]; rfl
  · have := (cnt_nn (P := fun c : CLA => toN v c = d ∧ rdy cs v c ∧ 2 * mx cs v c + 2 < (t : Int)) cs).2
    unfold cumT; omega
theorem cC_ok {c : CLA} (hc : c ∈ cs) : (∀ t, 0 ≤ cC cs v c t) ∧ cumC cs v c 0 = 0 ∧ (∀ t, cumC cs v c (t + 1) = cumC cs v c t + cC cs v c t) ∧ ∀ t, cumC cs v c t ≤ 10000 := by
  have hl := (h.hi c hc).1
  refine ⟨fun t => ?_, ?_, fun t => ?_, fun t => ?_⟩
  · have := (cnt_nn (P := fun p : Int => 0 < lev cs v p.toNat ∧ (t : Int) = 2 * lev cs v p.toNat + 1) c.1).1
    unfold cC; split <;> omega
  · unfold cumC
    rw [sumI_zero (fun p hp => if_neg (fun cc => by have := cc.2; have := cc.1; omega)), if_neg (by omega)]; rfl
  · unfold cumC cC
    have e : sumI (fun p : Int => if 0 < lev cs v p.toNat ∧ 2 * lev cs v p.toNat + 1 < ((t + 1 : Nat) : Int) then 1 else 0) c.1 = sumI (fun p : Int => if 0 < lev cs v p.toNat ∧ 2 * lev cs v p.toNat + 1 < (t : Int) then 1 else 0) c.1 + sumI (fun p : Int => if 0 < lev cs v p.toNat ∧ (t : Int) = 2 * lev cs v p.toNat + 1 then 1 else 0) c.1 := by
      rw [← sumI_add]
      refine sumI_congr (fun p hp => ?_)
      by_cases c1 : 0 < lev cs v p.toNat
      · by_cases c2 : 2 * lev cs v p.toNat + 1 < (t : Int)
        · rw [if_pos ⟨c1, by omega⟩, if_pos ⟨c1, c2⟩, if_neg (fun cc => by have := cc.2; omega)]; rfl
        · by_cases c3 : (t : Int) = 2 * lev cs v p.toNat + 1
          · rw [if_pos ⟨c1, by omega⟩, if_neg (fun cc => c2 cc.2), if_pos ⟨c1, c3⟩]; rfl
          · rw [if_neg (fun cc => by have := cc.2; omega), if_neg (fun cc => c2 cc.2), if_neg (fun cc => c3 cc.2)]; rfl
      · rw [if_neg (fun cc => c1 cc.1), if_neg (fun cc => c1 cc.1), if_neg (fun cc => c1 cc.1)]; rfl
    rw [e]
    by_cases c1 : c.1.length = 0
    · by_cases c2 : 1 < t
      · rw [if_pos ⟨c1, by omega⟩, if_pos ⟨c1, c2⟩, if_neg (by omega)]; omega
      · by_cases c3 : t = 1
        · rw [if_pos ⟨c1, by omega⟩, if_neg (by omega), if_pos ⟨c1, c3⟩]; omega
        · rw [if_neg (by omega), if_neg (by omega), if_neg (by omega)]; omega
    · rw [if_neg (fun cc => c1 cc.1), if_neg (fun cc => c1 cc.1), if_neg (fun cc => c1 cc.1)]; omega
  · have := (cnt_nn (P := fun p : Int => 0 < lev cs v p.toNat ∧ 2 * lev cs v p.toNat + 1 < (t : Int)) c.1).2
    unfold cumC; split <;> omega
end HOK
end
end Go.Proofs.Ytilcdghliigngaa
namespace Go.Proofs.Ytilcdghliigngaa
open Go.RowKit Go.Proofs.YtilcdghliigngaaGl Go.Proofs.YtilcdghliigngaaPm
set_option linter.unusedVariables false
set_option linter.unusedSimpArgs false
set_option linter.unusedSectionVars false
section
variable {cs : List CLA} {v : Nat}
def hX (cs : List CLA) (v t d : Nat) : Int := (if d < v + 1 then cT cs v d t else cC cs v (claAt cs v d) t) + (if 1 ≤ t ∧ hoF cs v (t - 1) d = true then -32768 else 0)
def hH (cs : List CLA) (v d : Nat) : Int := if d < v + 1 then 1 else max 1 ((claAt cs v d).1.length : Int)
def hV (cs : List CLA) (v : Nat) : Nat → Nat → Int
  | 0, _ => 0
  | t + 1, d => (stepV (setTh (onceP 0) (hH cs v d)) (hV cs v t d) (hX cs v t d)).1
namespace HOK
variable (h : HOK cs v)
include h
theorem at_mem {i : Nat} (hi : i < cs.length) : cs.getD i ([], 0) ∈ cs := by
  obtain ⟨c, hc⟩ : ∃ c, cs[i]? = some c := ⟨_, List.getElem?_eq_getElem hi⟩
  rw [getD_at hc]; exact List.mem_iff_getElem?.2 ⟨i, hc⟩
theorem fires {d : Nat} (hd : d < v + 1 + cs.length) (t : Nat) : (stepV (setTh (onceP 0) (hH cs v d)) (hV cs v t d) (hX cs v t d)).2 = hoF cs v t d := by
  by_cases c : d < v + 1
  · obtain ⟨h1, h2, h3, h4⟩ := h.cT_ok d
    have e1 : hH cs v d = 1 := by unfold hH; rw [if_pos c]
    rw [e1]
    exact once_sim (h := 1) (by omega) (c := fun t => cT cs v d t) (cum := fun t => cumT cs v d t) (x := fun t => hX cs v t d) (V := fun t => hV cs v t d) (F := fun t => hoF cs v t d) h1 h2 h3 h4 (fun t => h.thing c t) (fun t => by unfold hX; rw [if_pos c]) rfl (fun t => by show (stepV (setTh (onceP 0) (hH cs v d)) _ _).1 = _; rw [e1]) t
  · obtain ⟨i, rfl⟩ : ∃ i, d = v + 1 + i := ⟨d - (v + 1), by omega⟩
    have hi : i < cs.length := by omega
    have ei : claAt cs v (v + 1 + i) = cs.getD i ([], 0) := by unfold claAt; rw [show v + 1 + i - (v + 1) = i by omega]
    have hm := h.at_mem hi
    have hl := (h.hi _ hm).1
    obtain ⟨h1, h2, h3, h4⟩ := h.cC_ok hm
    have e1 : hH cs v (v + 1 + i) = max 1 ((cs.getD i ([], 0)).1.length : Int) := by unfold hH; rw [if_neg c, ei]
    rw [e1]
    exact once_sim (h := max 1 ((cs.getD i ([], 0)).1.length : Int)) (by omega) (c := fun t => cC cs v (cs.getD i ([], 0)) t) (cum := fun t => cumC cs v (cs.getD i ([], 0)) t) (x := fun t => hX cs v t (v + 1 + i)) (V := fun t => hV cs v t (v + 1 + i)) (F := fun t => hoF cs v t (v + 1 + i)) h1 h2 h3 h4 (fun t => h.clause hi t) (fun t => by unfold hX; rw [if_neg c, ei]) rfl (fun t => by show (stepV (setTh (onceP 0) (hH cs v (v + 1 + i))) _ _).1 = _; rw [e1]) t
end HOK
end
end Go.Proofs.Ytilcdghliigngaa
namespace Go.Proofs.Ytilcdghliigngaa
open Go.RowKit Go.Proofs.YtilcdghliigngaaGl Go.Proofs.YtilcdghliigngaaPm
set_option linter.unusedVariables false
set_option linter.unusedSimpArgs false
theorem rdGrow {w0 w : World} {φ φ' : World → Prop} {a : Option Addr} {c : Nat} {E : TypeId} {sz n : Nat} {cs : List Value} {A : List Atom} (h : Sat w0 w (rd φ :: row a c E sz n cs :: A)) (hf : ∀ w, φ w → Ro w a cs → φ' w) : Sat w0 w (rd φ' :: A) := by
  have h1 : Sat w0 w (bun [rd φ, row a c E sz n cs] :: A) := Sat.bundle (B := [rd φ, row a c E sz n cs]) (A := A) h
  exact h1.freeze (fun w S hS => by
    obtain ⟨S1, U1, ⟨hφ, _, _⟩, ⟨S2, U2, ⟨hrow, _⟩, _, _, _⟩, _, _⟩ := hS
    exact hf w hφ (ro_of_own hrow))
theorem rdNew {w0 w : World} {φ : World → Prop} {A : List Atom} (h : Sat w0 w A) (hf : ∀ w, φ w) : Sat w0 w (rd φ :: A) := by
  have h1 : Sat w0 w (bun [] :: A) := Sat.bundle (B := []) (A := A) h
  exact h1.freeze (fun w _ _ => hf w)
abbrev nlR (lz : List NL) : World → Prop := fun w => ∀ l ∈ lz, RoL w l.1.1 eInt l.2
theorem nlR_grow {lz : List NL} {a : Option Addr} {c : Nat} {xr : List Int} (w : World) (h : nlR lz w) (h2 : Ro w a (xr.flatMap eInt)) : nlR (lz ++ [((a, c), xr)]) w := by
  intro l hl
  rcases List.mem_append.1 hl with hl | hl
  · exact h l hl
  · obtain rfl := List.mem_singleton.1 hl; exact h2
end Go.Proofs.Ytilcdghliigngaa
namespace Go.Proofs.Ytilcdghliigngaa
open Go.RowKit Go.Proofs.YtilcdghliigngaaGl Go.Proofs.YtilcdghliigngaaPm
set_option linter.unusedVariables false
set_option linter.unusedSimpArgs false
theorem rowle_any {w0 w : World} {A R : List Atom} {a : Option Addr} {cap sz m : Nat} {E : TypeId} {cs : List Value} (h : Sat w0 w A) (hp : Pull A (row a cap E sz m cs) R) : m ≤ cap := by
  obtain ⟨hlen, hown⟩ := h.own hp
  rcases hown with ⟨h0, h00⟩ | ⟨b', cap', cur, hv0, _, hh, h2, h3, h4, h5⟩
  · omega
  · cases hv0; exact h2
def exN (r : Except Int NetP) : NetP := match r with | .ok N => N | .error _ => ⟨[], 0, []⟩
theorem retR_ok {k : FuncId} {vs : Array Value} {r : Except Int NetP} {w : World} {N : NetP} (h : Calls Try.prog k vs w (RetR r w)) (hr : r = .ok N) :
    Calls Try.prog k vs w fun e w' => ∃ x : (Option Addr × Nat) × (Option Addr × Nat), e = .returned (.tuple #[.agg #[.slice x.1.1 N.ns.length x.1.2, .int .i64 N.inp, .slice x.2.1 N.ss.length x.2.2], .int .i64 0]) ∧ Sat w w' [row x.1.1 x.1.2 116 8 N.ns.length (N.ns.flatMap ePrm), row x.2.1 x.2.2 126 4 N.ss.length (N.ss.flatMap eSyn)] := by
  subst hr
  exact h.mono fun e w' h => by obtain ⟨p, q, h1, h2⟩ := h; exact ⟨(p, q), h1, h2⟩
theorem retL_ok {k : FuncId} {vs : Array Value} {r : Except Int (List Int)} {w : World} {xs : List Int} (h : Calls Try.prog k vs w (RetL r w)) (hr : r = .ok xs) :
    Calls Try.prog k vs w fun e w' => ∃ p : Option Addr × Nat, e = .returned (.tuple #[.slice p.1 xs.length p.2, .int .i64 0]) ∧ Sat w w' [row p.1 p.2 3 1 xs.length (xs.flatMap eInt)] := by
  subst hr; exact h
theorem retE_ok {k : FuncId} {vs : Array Value} {r : Except Int (List Evt)} {w : World} {xs : List Evt} (h : Calls Try.prog k vs w (RetE r w)) (hr : r = .ok xs) :
    Calls Try.prog k vs w fun e w' => ∃ p : Option Addr × Nat, e = .returned (.tuple #[.slice p.1 xs.length p.2, .int .i64 0]) ∧ Sat w w' [row p.1 p.2 88 2 xs.length (xs.flatMap eEvt)] := by
  subst hr; exact h
theorem runW {k : FuncId} {vs : Array Value} {w : World} {out xs : List Evt} (h : Calls Try.prog k vs w fun e w' => ∃ p : Option Addr × Nat, e = .returned (.slice p.1 out.length p.2) ∧ Sat w w' [row p.1 p.2 88 2 out.length (out.flatMap eEvt)]) (hr : out = xs) :
    Calls Try.prog k vs w fun e w' => ∃ p : Option Addr × Nat, e = .returned (.slice p.1 xs.length p.2) ∧ Sat w w' [row p.1 p.2 88 2 xs.length (xs.flatMap eEvt)] := by
  subst hr; exact h
abbrev wE : List Edg := [⟨0, 1, 5⟩, ⟨0, 2, 2⟩, ⟨2, 1, 2⟩]
def wNp : NetP := exN (pathsP 3 wE 0)
def wNs : NetP := exN (sortP 3)
abbrev wA : List (List Int) := [[0, 1], [1, 0]]
def wNm : NetP := exN (machineP wA 0 [false, true])
abbrev wC : List (List Int × Int) := [([], 0), ([0], 1), ([0, 1], -1), ([2], 2)]
def wNh : NetP := exN (hornP 3 wC)
def wNr : NetP := exN (memP 2 2 [([0], [1])])
def wNc : NetP := exN (countP 1 [⟨0, 5, 1⟩] 2)
def wNq : NetP := exN (patP 2 [⟨0, 0⟩, ⟨1, 3⟩] 0)
theorem kNp : pathsP 3 wE 0 = .ok wNp := by kernel_rfl
theorem kNs : sortP 3 = .ok wNs := by kernel_rfl
theorem kNm : machineP wA 0 [false, true] = .ok wNm := by kernel_rfl
theorem kNh : hornP 3 wC = .ok wNh := by kernel_rfl
theorem kNr : memP 2 2 [([0], [1])] = .ok wNr := by kernel_rfl
theorem kNc : countP 1 [⟨0, 5, 1⟩] 2 = .ok wNc := by kernel_rfl
theorem kNq : patP 2 [⟨0, 0⟩, ⟨1, 3⟩] 0 = .ok wNq := by kernel_rfl
theorem kLp : lawRun wNp 0 48 [⟨0, 0⟩] = [⟨1, 0⟩, ⟨3, 2⟩, ⟨5, 1⟩] := by kernel_rfl
theorem kLs : lawRun wNs 0 9 [⟨2, 1⟩, ⟨5, 0⟩, ⟨5, 2⟩] = [⟨3, 0⟩, ⟨6, 1⟩, ⟨6, 2⟩] := by kernel_rfl
theorem kDp : distP 3 [⟨1, 0⟩, ⟨3, 2⟩, ⟨5, 1⟩] = .ok [0, 4, 2] := by kernel_rfl
theorem kBp : befP 3 wE [0, 4, 2] = .ok [-1, 2, 0] := by kernel_rfl
theorem kWm : wordP wA 0 2 [1, 1, 0] = .ok [⟨0, 1⟩, ⟨0, 2⟩, ⟨3, 1⟩, ⟨6, 0⟩] := by kernel_rfl
theorem kLm : lawRun wNm 0 12 [⟨0, 1⟩, ⟨0, 2⟩, ⟨3, 1⟩, ⟨6, 0⟩] = [⟨1, 0⟩, ⟨2, 3⟩, ⟨4, 1⟩, ⟨5, 5⟩, ⟨5, 6⟩, ⟨7, 0⟩, ⟨8, 2⟩, ⟨10, 0⟩] := by kernel_rfl
theorem kSm : statesP wA 0 2 [⟨1, 0⟩, ⟨2, 3⟩, ⟨4, 1⟩, ⟨5, 5⟩, ⟨5, 6⟩, ⟨7, 0⟩, ⟨8, 2⟩, ⟨10, 0⟩] = .ok [0, 1, 0, 0] := by kernel_rfl
theorem kLh : lawRun wNh 0 9 [⟨0, 0⟩] = [⟨1, 4⟩, ⟨2, 0⟩, ⟨3, 5⟩, ⟨4, 1⟩, ⟨5, 6⟩, ⟨6, 3⟩] := by kernel_rfl
theorem kLr : lawRun wNr 0 9 [⟨4, 0⟩, ⟨4, 2⟩] = [⟨5, 1⟩] := by kernel_rfl
theorem kLc : lawRun wNc 0 9 [⟨0, 0⟩] = [⟨1, 0⟩, ⟨2, 0⟩] := by kernel_rfl
theorem kLq : lawRun wNq 0 20 [⟨1, 0⟩, ⟨4, 1⟩] = [⟨17, 0⟩] := by kernel_rfl
theorem works_c (w : World) : Calls Try.prog 13 [].toArray w fun e w' => e = .returned (.bool true) ∧ Sat w w' [] := by
  refine fstart Try.func13 rfl rfl (Sat.nil w) ?_
  refine Cd.seq ?_
  refine Cd.region ?_
  refine Ops.q (q_asg rfl) ?_
  refine Ops.to rfl ?_
  refine Cd.seq ?_
  refine Cd.region ?_
  refine Ops.q (q_bld [.int .i64 0, .int .i64 1, .int .i64 5] pls_82 zc_82 rfl rfl) ?_
  refine Ops.q (q_bld [.int .i64 0, .int .i64 2, .int .i64 2] pls_82 zc_82 rfl rfl) ?_
  refine Ops.q (q_bld [.int .i64 2, .int .i64 1, .int .i64 2] pls_82 zc_82 rfl rfl) ?_
  refine Ops.lit [.int .i64 0, .int .i64 1, .int .i64 5, .int .i64 0, .int .i64 2, .int .i64 2, .int .i64 2, .int .i64 1, .int .i64 2] el_80 zsb_82 rfl rfl ⟨by decide, by decide⟩ rfl ?_
  intro b1
  refine Ops.q (q_asg rfl) ?_
  refine Ops.to rfl ?_
  refine Cd.seq ?_
  refine Cd.region ?_
  refine Ops.q (q_mv rfl) ?_
  refine Ops.cl (α := (Option Addr × Nat) × (Option Addr × Nat)) (v := fun x => .tuple [.agg [.slice x.1.1 wNp.ns.length x.1.2, .int .i64 wNp.inp, .slice x.2.1 wNp.ss.length x.2.2].toArray, .int .i64 0].toArray) (B := fun x => [row x.1.1 x.1.2 116 8 wNp.ns.length (wNp.ns.flatMap ePrm), row x.2.1 x.2.2 126 4 wNp.ss.length (wNp.ss.flatMap eSyn)]) en_34 rfl (fun w hs => retR_ok (paths_c 3 _ _ [⟨0, 1, 5⟩, ⟨0, 2, 2⟩, ⟨2, 1, 2⟩] 0 w (hs.ownRo .here)) kNp) ?_
  rintro ⟨⟨p2, pc3⟩, ⟨q4, qc5⟩⟩
  refine Ops.q (q_mv rfl) ?_
  refine Ops.q (q_ext rfl rfl) ?_
  refine Ops.q (q_ext rfl rfl) ?_
  refine Ops.alc [.slice none 0 0, .int .i64 0, .slice none 0 0] zc_32 ?_
  intro b6
  refine Ops.stB [.slice p2 wNp.ns.length pc3, .int .i64 wNp.inp, .slice q4 wNp.ss.length qc5] [.slice p2 wNp.ns.length pc3, .int .i64 wNp.inp, .slice q4 wNp.ss.length qc5] sz_32 rfl rfl rfl (one rfl) .here rfl rfl ?_
  refine Ops.q (q_asg rfl) ?_
  refine Ops.to rfl ?_
  refine Cd.seq ?_
  refine Cd.draw rfl (by kernel_rfl) (.cons .here .nil) ?_
  intro F7 St8 hP9 hF10 hR11
  refine Dr.q (i := 0) hP9 rfl (by kernel_rfl) (q_ldBN [.slice p2 wNp.ns.length pc3, .int .i64 wNp.inp, .slice q4 wNp.ss.length qc5] isA_32 sz_32 rfl .here rfl) ?_
  refine Dr.q (i := 1) hP9 rfl (by kernel_rfl) (q_mv rfl) ?_
  refine Dr.e (i := 2) rfl (by kernel_rfl) ?_
  refine Ops.cp en_39 rfl (fun w hs => at_c 0 0 w) ?_
  refine Dr.back (fun _ hs => hF10 .here hs) ?_
  refine Dr.e (i := 3) rfl (by kernel_rfl) ?_
  refine Ops.lit [.int .i64 0, .int .i64 0] el_27 zsb_88 rfl rfl ⟨by decide, by decide⟩ rfl ?_
  intro b12
  refine Dr.back (fun _ hs => hF10 (.there .here) hs) ?_
  refine Dr.tail 4 (by kernel_rfl) ?_
  refine Ops.sat ?_ (fun _ hs => hR11 (.there .here) hs)
  refine Ops.cl (α := Option Addr × Nat) (v := fun p => .slice p.1 3 p.2) (B := fun p => [row p.1 p.2 88 2 3 [.int .i64 1, .int .i64 0, .int .i64 3, .int .i64 2, .int .i64 5, .int .i64 1]]) en_46 rfl (fun w hs => runW (lawRun_c _ _ _ _ wNp.ns wNp.inp wNp.ss _ _ ([⟨0, 0⟩] : List Evt) 0 48 w (hs.ownRo (.there (.there .here))) (hs.ownRo (.there (.there (.there .here)))) (hs.ownRo (.there .here)) (by exact rowle_any hs (.there .here))) kLp) ?_
  rintro ⟨ra13, rc14⟩
  refine Ops.q (q_asg rfl) ?_
  refine Ops.to rfl ?_
  refine Cd.seq ?_
  refine Cd.region ?_
  refine Ops.q (q_mv rfl) ?_
  refine Ops.cl (α := Option Addr × Nat) (v := fun p => .tuple [.slice p.1 3 p.2, .int .i64 0].toArray) (B := fun p => [row p.1 p.2 3 1 3 [.int .i64 0, .int .i64 4, .int .i64 2]]) en_37 rfl (fun w hs => retL_ok (dist_c 3 _ _ ([⟨1, 0⟩, ⟨3, 2⟩, ⟨5, 1⟩] : List Evt) w (hs.ownRo .here) (by decide)) kDp) ?_
  rintro ⟨la15, lc16⟩
  refine Ops.q (q_mv rfl) ?_
  refine Ops.q (q_ext rfl rfl) ?_
  refine Ops.q (q_ext rfl rfl) ?_
  refine Ops.q (q_asg rfl) ?_
  refine Ops.q (q_asg rfl) ?_
  refine Ops.to rfl ?_
  refine Cd.seq ?_
  refine Cd.region ?_
  refine Ops.q (q_mv rfl) ?_
  refine Ops.q (q_mv rfl) ?_
  refine Ops.cl (α := Option Addr × Nat) (v := fun p => .tuple [.slice p.1 3 p.2, .int .i64 0].toArray) (B := fun p => [row p.1 p.2 3 1 3 [.int .i64 (-1), .int .i64 2, .int .i64 0]]) en_38 rfl (fun w hs => retL_ok (before_c 3 _ _ wE _ _ [0, 4, 2] w (hs.ownRo (.there (.there (.there (.there (.there (.there .here))))))) (hs.ownRo .here)) kBp) ?_
  rintro ⟨la17, lc18⟩
  refine Ops.q (q_mv rfl) ?_
  refine Ops.q (q_ext rfl rfl) ?_
  refine Ops.q (q_ext rfl rfl) ?_
  refine Ops.q (q_asg rfl) ?_
  refine Ops.q (q_asg rfl) ?_
  refine Ops.to rfl ?_
  refine Cd.seq ?_
  refine Cd.seq ?_
  refine Cd.region ?_
  refine Ops.q (q_mv rfl) ?_
  refine Ops.cp en_39 rfl (fun w hs => at_c 1 0 w) ?_
  refine Ops.cp en_39 rfl (fun w hs => at_c 3 2 w) ?_
  refine Ops.cp en_39 rfl (fun w hs => at_c 5 1 w) ?_
  refine Ops.lit [.int .i64 1, .int .i64 0, .int .i64 3, .int .i64 2, .int .i64 5, .int .i64 1] el_27 zsb_88 rfl rfl ⟨by decide, by decide⟩ rfl ?_
  intro b19
  refine Ops.cp en_20 rfl (fun w hs => dT (events_c _ _ _ _ ([⟨1, 0⟩, ⟨3, 2⟩, ⟨5, 1⟩] : List Evt) ([⟨1, 0⟩, ⟨3, 2⟩, ⟨5, 1⟩] : List Evt) w (hs.ownRo (.there (.there (.there .here)))) (hs.ownRo .here) (by decide)) rfl) ?_
  refine Ops.q (q_not rfl) ?_
  refine Ops.q (q_mv rfl) ?_
  refine Ops.q (q_mv rfl) ?_
  refine Ops.q (q_cmp rfl rfl (c_nne (by decide))) ?_
  refine Ops.q (q_pickF rfl rfl) ?_
  refine Ops.q (q_mv rfl) ?_
  refine Ops.q (q_mv rfl) ?_
  refine Ops.q (q_cmp rfl rfl (c_nne (by decide))) ?_
  refine Ops.q (q_pickF rfl rfl) ?_
  refine Ops.q (q_mv rfl) ?_
  refine Ops.q (q_mv rfl) ?_
  refine Ops.lit [.int .i64 0, .int .i64 4, .int .i64 2] el_26 zsb_3 rfl rfl ⟨by decide, by decide⟩ rfl ?_
  intro b20
  refine Ops.cp en_23 rfl (fun w hs => dT (numbers_c _ _ _ _ ([0, 4, 2] : List Int) ([0, 4, 2] : List Int) w (hs.ownRo (.there (.there (.there .here)))) (hs.ownRo .here) (by decide)) rfl) ?_
  refine Ops.q (q_not rfl) ?_
  refine Ops.q (q_pickF rfl rfl) ?_
  refine Ops.q (q_mv rfl) ?_
  refine Ops.q (q_mv rfl) ?_
  refine Ops.lit [.int .i64 (-1), .int .i64 2, .int .i64 0] el_26 zsb_3 rfl rfl ⟨by decide, by decide⟩ rfl ?_
  intro b21
  refine Ops.cp en_23 rfl (fun w hs => dT (numbers_c _ _ _ _ ([-1, 2, 0] : List Int) ([-1, 2, 0] : List Int) w (hs.ownRo (.there (.there (.there .here)))) (hs.ownRo .here) (by decide)) rfl) ?_
  refine Ops.q (q_not rfl) ?_
  refine Ops.q (q_pickF rfl rfl) ?_
  refine Ops.to rfl ?_
  refine Cd.cond_f rfl ?_
  refine Cd.skipTo rfl ?_
  refine Cd.seq ?_
  refine Cd.sat ?_ (fun _ hs => (((((((((((hs.pull (.there (.there (.there (.there (.there (.there .here))))))).pull (.there .here)).drop.pull (.there .here)).drop.pull (.there .here)).drop.pull (.there .here)).drop.pull (.there .here)).drop.pull (.there .here)).drop.pull (.there .here)).drop.pull (.there .here)).drop.pull (.there .here)).drop.pull (.there .here)).drop)
  refine Cd.region ?_
  refine Ops.cl (α := (Option Addr × Nat) × (Option Addr × Nat)) (v := fun x => .tuple [.agg [.slice x.1.1 wNs.ns.length x.1.2, .int .i64 wNs.inp, .slice x.2.1 wNs.ss.length x.2.2].toArray, .int .i64 0].toArray) (B := fun x => [row x.1.1 x.1.2 116 8 wNs.ns.length (wNs.ns.flatMap ePrm), row x.2.1 x.2.2 126 4 wNs.ss.length (wNs.ss.flatMap eSyn)]) en_24 rfl (fun w hs => retR_ok (sort_c 3 w) kNs) ?_
  rintro ⟨⟨p22, pc23⟩, ⟨q24, qc25⟩⟩
  refine Ops.q (q_mv rfl) ?_
  refine Ops.q (q_ext rfl rfl) ?_
  refine Ops.q (q_ext rfl rfl) ?_
  refine Ops.stB [.slice p22 wNs.ns.length pc23, .int .i64 wNs.inp, .slice q24 wNs.ss.length qc25] [.slice p22 wNs.ns.length pc23, .int .i64 wNs.inp, .slice q24 wNs.ss.length qc25] sz_32 rfl rfl rfl (one rfl) (.there (.there .here)) rfl rfl ?_
  refine Ops.q (q_asg rfl) ?_
  refine Ops.to rfl ?_
  refine Cd.seq ?_
  refine Cd.seq ?_
  refine Cd.draw rfl (by kernel_rfl) (.cons (.there (.there .here)) .nil) ?_
  intro F26 St27 hP28 hF29 hR30
  refine Dr.q (i := 0) hP28 rfl (by kernel_rfl) (q_ldBN [.slice p22 wNs.ns.length pc23, .int .i64 wNs.inp, .slice q24 wNs.ss.length qc25] isA_32 sz_32 rfl .here rfl) ?_
  refine Dr.q (i := 1) hP28 rfl (by kernel_rfl) (q_mv rfl) ?_
  refine Dr.e (i := 2) rfl (by kernel_rfl) ?_
  refine Ops.cp en_39 rfl (fun w hs => at_c 2 1 w) ?_
  refine Dr.back (fun _ hs => hF29 .here hs) ?_
  refine Dr.e (i := 3) rfl (by kernel_rfl) ?_
  refine Ops.cp en_39 rfl (fun w hs => at_c 5 0 w) ?_
  refine Dr.back (fun _ hs => hF29 .here hs) ?_
  refine Dr.e (i := 4) rfl (by kernel_rfl) ?_
  refine Ops.cp en_39 rfl (fun w hs => at_c 5 2 w) ?_
  refine Dr.back (fun _ hs => hF29 .here hs) ?_
  refine Dr.e (i := 5) rfl (by kernel_rfl) ?_
  refine Ops.lit [.int .i64 2, .int .i64 1, .int .i64 5, .int .i64 0, .int .i64 5, .int .i64 2] el_27 zsb_88 rfl rfl ⟨by decide, by decide⟩ rfl ?_
  intro b31
  refine Dr.back (fun _ hs => hF29 (.there .here) hs) ?_
  refine Dr.e (i := 6) rfl (by kernel_rfl) ?_
  refine Ops.cl (α := Option Addr × Nat) (v := fun p => .slice p.1 3 p.2) (B := fun p => [row p.1 p.2 88 2 3 [.int .i64 3, .int .i64 0, .int .i64 6, .int .i64 1, .int .i64 6, .int .i64 2]]) en_46 rfl (fun w hs => runW (lawRun_c _ _ _ _ wNs.ns wNs.inp wNs.ss _ _ ([⟨2, 1⟩, ⟨5, 0⟩, ⟨5, 2⟩] : List Evt) 0 9 w (hs.ownRo (.there (.there .here))) (hs.ownRo (.there (.there (.there .here)))) (hs.ownRo .here) (by exact rowle_any hs .here)) kLs) ?_
  rintro ⟨ra32, rc33⟩
  refine Dr.back (fun _ hs => hF29 (.there (.there .here)) hs) ?_
  refine Dr.e (i := 7) rfl (by kernel_rfl) ?_
  refine Ops.cp en_39 rfl (fun w hs => at_c 3 0 w) ?_
  refine Dr.back (fun _ hs => hF29 (.there (.there .here)) hs) ?_
  refine Dr.e (i := 8) rfl (by kernel_rfl) ?_
  refine Ops.cp en_39 rfl (fun w hs => at_c 6 1 w) ?_
  refine Dr.back (fun _ hs => hF29 (.there (.there .here)) hs) ?_
  refine Dr.e (i := 9) rfl (by kernel_rfl) ?_
  refine Ops.cp en_39 rfl (fun w hs => at_c 6 2 w) ?_
  refine Dr.back (fun _ hs => hF29 (.there (.there .here)) hs) ?_
  refine Dr.e (i := 10) rfl (by kernel_rfl) ?_
  refine Ops.lit [.int .i64 3, .int .i64 0, .int .i64 6, .int .i64 1, .int .i64 6, .int .i64 2] el_27 zsb_88 rfl rfl ⟨by decide, by decide⟩ rfl ?_
  intro b34
  refine Dr.back (fun _ hs => hF29 (.there (.there (.there .here))) hs) ?_
  refine Dr.e (i := 11) rfl (by kernel_rfl) ?_
  refine Ops.cp en_20 rfl (fun w hs => dT (events_c _ _ _ _ ([⟨3, 0⟩, ⟨6, 1⟩, ⟨6, 2⟩] : List Evt) ([⟨3, 0⟩, ⟨6, 1⟩, ⟨6, 2⟩] : List Evt) w (hs.ownRo (.there .here)) (hs.ownRo .here) (by decide)) rfl) ?_
  refine Dr.back (fun _ hs => hF29 (.there (.there (.there .here))) hs) ?_
  refine Dr.q (i := 12) hP28 rfl (by kernel_rfl) (q_not rfl) ?_
  refine Dr.tail 13 (by kernel_rfl) ?_
  refine Ops.sat ?_ (fun _ hs => hR30 (.there (.there (.there .here))) hs)
  refine Ops.to rfl ?_
  refine Cd.cond_f rfl ?_
  refine Cd.skipTo rfl ?_
  refine Cd.seq ?_
  refine Cd.sat ?_ (fun _ hs => ((((((hs.pull .here).pull (.there .here)).drop.pull (.there .here)).drop.pull (.there .here)).drop.pull (.there .here)).drop.pull (.there .here)).drop)
  refine Cd.region ?_
  refine Ops.lit [.int .i64 0, .int .i64 1] el_26 zsb_3 rfl rfl ⟨by decide, by decide⟩ rfl ?_
  intro b35
  refine Ops.lit [.int .i64 1, .int .i64 0] el_26 zsb_3 rfl rfl ⟨by decide, by decide⟩ rfl ?_
  intro b36
  refine Ops.lit [.slice (some ⟨b35, 0, none⟩) 2 2, .slice (some ⟨b36, 0, none⟩) 2 2] el_22 zsb_26 rfl rfl ⟨by decide, by decide⟩ rfl ?_
  intro b37
  refine Ops.lit [.bool false, .bool true] el_23 zsb_4 rfl rfl ⟨by decide, by decide⟩ rfl ?_
  intro b38
  refine Ops.q (q_bld [.slice (some ⟨b37, 0, none⟩) 2 2, .int .i64 0, .slice (some ⟨b38, 0, none⟩) 2 2] pls_36 zc_36 rfl rfl) ?_
  refine Ops.alc [.slice none 0 0, .int .i64 0, .slice none 0 0] zc_36 ?_
  intro b39
  refine Ops.stB [.slice (some ⟨b37, 0, none⟩) 2 2, .int .i64 0, .slice (some ⟨b38, 0, none⟩) 2 2] [.slice (some ⟨b37, 0, none⟩) 2 2, .int .i64 0, .slice (some ⟨b38, 0, none⟩) 2 2] sz_36 rfl rfl rfl (one rfl) .here rfl rfl ?_
  refine Ops.to rfl ?_
  refine Cd.seq ?_
  refine Cd.region ?_
  refine Ops.q (q_ldBN [.slice (some ⟨b37, 0, none⟩) 2 2, .int .i64 0, .slice (some ⟨b38, 0, none⟩) 2 2] isA_36 sz_36 rfl .here rfl) ?_
  refine Ops.cl (α := (Option Addr × Nat) × (Option Addr × Nat)) (v := fun x => .tuple [.agg [.slice x.1.1 wNm.ns.length x.1.2, .int .i64 wNm.inp, .slice x.2.1 wNm.ss.length x.2.2].toArray, .int .i64 0].toArray) (B := fun x => [row x.1.1 x.1.2 116 8 wNm.ns.length (wNm.ns.flatMap ePrm), row x.2.1 x.2.2 126 4 wNm.ss.length (wNm.ss.flatMap eSyn)]) en_14 rfl (fun w hs => retR_ok (machine_c _ _ [(((some ⟨b35, 0, none⟩, 2), ([0, 1] : List Int)) : NL), (((some ⟨b36, 0, none⟩, 2), ([1, 0] : List Int)) : NL)] 0 _ _ [false, true] w ⟨hs.ownRo (.there (.there .here)), List.forall_mem_cons.2 ⟨hs.ownRo (.there (.there (.there (.there .here)))), List.forall_mem_cons.2 ⟨hs.ownRo (.there (.there (.there .here))), fun _ h => by cases h⟩⟩⟩ (hs.ownRo (.there .here))) kNm) ?_
  rintro ⟨⟨p40, pc41⟩, ⟨q42, qc43⟩⟩
  refine Ops.q (q_mv rfl) ?_
  refine Ops.q (q_ext rfl rfl) ?_
  refine Ops.q (q_ext rfl rfl) ?_
  refine Ops.stB [.slice p40 wNm.ns.length pc41, .int .i64 wNm.inp, .slice q42 wNm.ss.length qc43] [.slice p40 wNm.ns.length pc41, .int .i64 wNm.inp, .slice q42 wNm.ss.length qc43] sz_32 rfl rfl rfl (one rfl) (.there (.there (.there (.there (.there (.there (.there .here))))))) rfl rfl ?_
  refine Ops.q (q_asg rfl) ?_
  refine Ops.to rfl ?_
  refine Cd.seq ?_
  refine Cd.region ?_
  refine Ops.q (q_ldBN [.slice (some ⟨b37, 0, none⟩) 2 2, .int .i64 0, .slice (some ⟨b38, 0, none⟩) 2 2] isA_36 sz_36 rfl (.there (.there .here)) rfl) ?_
  refine Ops.lit [.int .i64 1, .int .i64 1, .int .i64 0] el_26 zsb_3 rfl rfl ⟨by decide, by decide⟩ rfl ?_
  intro b44
  refine Ops.cl (α := Option Addr × Nat) (v := fun p => .tuple [.slice p.1 4 p.2, .int .i64 0].toArray) (B := fun p => [row p.1 p.2 88 2 4 [.int .i64 0, .int .i64 1, .int .i64 0, .int .i64 2, .int .i64 3, .int .i64 1, .int .i64 6, .int .i64 0]]) en_18 rfl (fun w hs => retE_ok (word_c _ _ [(((some ⟨b35, 0, none⟩, 2), ([0, 1] : List Int)) : NL), (((some ⟨b36, 0, none⟩, 2), ([1, 0] : List Int)) : NL)] 0 _ 2 _ _ _ [1, 1, 0] w ⟨hs.ownRo (.there (.there (.there (.there (.there .here))))), List.forall_mem_cons.2 ⟨hs.ownRo (.there (.there (.there (.there (.there (.there (.there .here))))))), List.forall_mem_cons.2 ⟨hs.ownRo (.there (.there (.there (.there (.there (.there .here)))))), fun _ h => by cases h⟩⟩⟩ (hs.ownRo .here)) kWm) ?_
  rintro ⟨la45, lc46⟩
  refine Ops.q (q_mv rfl) ?_
  refine Ops.q (q_ext rfl rfl) ?_
  refine Ops.q (q_ext rfl rfl) ?_
  refine Ops.q (q_asg rfl) ?_
  refine Ops.q (q_asg rfl) ?_
  refine Ops.to rfl ?_
  refine Cd.seq ?_
  refine Cd.region ?_
  refine Ops.q (q_ldBN [.slice p40 wNm.ns.length pc41, .int .i64 wNm.inp, .slice q42 wNm.ss.length qc43] isA_32 sz_32 rfl (.there (.there (.there (.there (.there (.there (.there (.there (.there .here))))))))) rfl) ?_
  refine Ops.q (q_mv rfl) ?_
  refine Ops.q (q_mv rfl) ?_
  refine Ops.cl (α := Option Addr × Nat) (v := fun p => .slice p.1 8 p.2) (B := fun p => [row p.1 p.2 88 2 8 [.int .i64 1, .int .i64 0, .int .i64 2, .int .i64 3, .int .i64 4, .int .i64 1, .int .i64 5, .int .i64 5, .int .i64 5, .int .i64 6, .int .i64 7, .int .i64 0, .int .i64 8, .int .i64 2, .int .i64 10, .int .i64 0]]) en_46 rfl (fun w hs => runW (lawRun_c _ _ _ _ wNm.ns wNm.inp wNm.ss _ _ ([⟨0, 1⟩, ⟨0, 2⟩, ⟨3, 1⟩, ⟨6, 0⟩] : List Evt) 0 12 w (hs.ownRo (.there (.there .here))) (hs.ownRo (.there (.there (.there .here)))) (hs.ownRo .here) (by exact rowle_any hs .here)) kLm) ?_
  rintro ⟨ra47, rc48⟩
  refine Ops.q (q_asg rfl) ?_
  refine Ops.to rfl ?_
  refine Cd.seq ?_
  refine Cd.region ?_
  refine Ops.q (q_ldBN [.slice (some ⟨b37, 0, none⟩) 2 2, .int .i64 0, .slice (some ⟨b38, 0, none⟩) 2 2] isA_36 sz_36 rfl (.there (.there (.there (.there (.there .here))))) rfl) ?_
  refine Ops.q (q_mv rfl) ?_
  refine Ops.cl (α := Option Addr × Nat) (v := fun p => .tuple [.slice p.1 4 p.2, .int .i64 0].toArray) (B := fun p => [row p.1 p.2 3 1 4 [.int .i64 0, .int .i64 1, .int .i64 0, .int .i64 0]]) en_21 rfl (fun w hs => retL_ok (states_c _ _ [(((some ⟨b35, 0, none⟩, 2), ([0, 1] : List Int)) : NL), (((some ⟨b36, 0, none⟩, 2), ([1, 0] : List Int)) : NL)] 0 _ 2 _ _ _ ([⟨1, 0⟩, ⟨2, 3⟩, ⟨4, 1⟩, ⟨5, 5⟩, ⟨5, 6⟩, ⟨7, 0⟩, ⟨8, 2⟩, ⟨10, 0⟩] : List Evt) w ⟨hs.ownRo (.there (.there (.there (.there (.there (.there (.there .here))))))), List.forall_mem_cons.2 ⟨hs.ownRo (.there (.there (.there (.there (.there (.there (.there (.there (.there .here))))))))), List.forall_mem_cons.2 ⟨hs.ownRo (.there (.there (.there (.there (.there (.there (.there (.there .here)))))))), fun _ h => by cases h⟩⟩⟩ (hs.ownRo .here) (by decide)) kSm) ?_
  rintro ⟨la49, lc50⟩
  refine Ops.q (q_mv rfl) ?_
  refine Ops.q (q_ext rfl rfl) ?_
  refine Ops.q (q_ext rfl rfl) ?_
  refine Ops.q (q_asg rfl) ?_
  refine Ops.q (q_asg rfl) ?_
  refine Ops.to rfl ?_
  refine Cd.seq ?_
  refine Cd.seq ?_
  refine Cd.region ?_
  refine Ops.q (q_mv rfl) ?_
  refine Ops.q (q_cmp rfl rfl (c_nne (by decide))) ?_
  refine Ops.q (q_mv rfl) ?_
  refine Ops.q (q_mv rfl) ?_
  refine Ops.q (q_cmp rfl rfl (c_nne (by decide))) ?_
  refine Ops.q (q_pickF rfl rfl) ?_
  refine Ops.q (q_mv rfl) ?_
  refine Ops.q (q_mv rfl) ?_
  refine Ops.cp en_39 rfl (fun w hs => at_c 0 1 w) ?_
  refine Ops.cp en_39 rfl (fun w hs => at_c 0 2 w) ?_
  refine Ops.cp en_39 rfl (fun w hs => at_c 3 1 w) ?_
  refine Ops.cp en_39 rfl (fun w hs => at_c 6 0 w) ?_
  refine Ops.lit [.int .i64 0, .int .i64 1, .int .i64 0, .int .i64 2, .int .i64 3, .int .i64 1, .int .i64 6, .int .i64 0] el_27 zsb_88 rfl rfl ⟨by decide, by decide⟩ rfl ?_
  intro b51
  refine Ops.cp en_20 rfl (fun w hs => dT (events_c _ _ _ _ ([⟨0, 1⟩, ⟨0, 2⟩, ⟨3, 1⟩, ⟨6, 0⟩] : List Evt) ([⟨0, 1⟩, ⟨0, 2⟩, ⟨3, 1⟩, ⟨6, 0⟩] : List Evt) w (hs.ownRo (.there (.there (.there .here)))) (hs.ownRo .here) (by decide)) rfl) ?_
  refine Ops.q (q_not rfl) ?_
  refine Ops.q (q_pickF rfl rfl) ?_
  refine Ops.q (q_mv rfl) ?_
  refine Ops.q (q_mv rfl) ?_
  refine Ops.lit [.int .i64 0, .int .i64 1, .int .i64 0, .int .i64 0] el_26 zsb_3 rfl rfl ⟨by decide, by decide⟩ rfl ?_
  intro b52
  refine Ops.cp en_23 rfl (fun w hs => dT (numbers_c _ _ _ _ ([0, 1, 0, 0] : List Int) ([0, 1, 0, 0] : List Int) w (hs.ownRo (.there (.there .here))) (hs.ownRo .here) (by decide)) rfl) ?_
  refine Ops.q (q_not rfl) ?_
  refine Ops.q (q_pickF rfl rfl) ?_
  refine Ops.to rfl ?_
  refine Cd.cond_f rfl ?_
  refine Cd.skipTo rfl ?_
  refine Cd.seq ?_
  refine Cd.sat ?_ (fun _ hs => ((((((((((((((hs.pull (.there (.there (.there (.there (.there (.there (.there (.there (.there (.there (.there (.there (.there .here)))))))))))))).pull (.there .here)).drop.pull (.there .here)).drop.pull (.there .here)).drop.pull (.there .here)).drop.pull (.there .here)).drop.pull (.there .here)).drop.pull (.there .here)).drop.pull (.there .here)).drop.pull (.there .here)).drop.pull (.there .here)).drop.pull (.there .here)).drop.pull (.there .here)).drop.pull (.there .here)).drop)
  refine Cd.region ?_
  refine Ops.q (q_bld [.slice none 0 0, .int .i64 0] pls_55 zc_55 rfl rfl) ?_
  refine Ops.lit [.int .i64 0] el_26 zsb_3 rfl rfl ⟨by decide, by decide⟩ rfl ?_
  intro b53
  refine Ops.q (q_bld [.slice (some ⟨b53, 0, none⟩) 1 1, .int .i64 1] pls_55 zc_55 rfl rfl) ?_
  refine Ops.lit [.int .i64 0, .int .i64 1] el_26 zsb_3 rfl rfl ⟨by decide, by decide⟩ rfl ?_
  intro b54
  refine Ops.q (q_bld [.slice (some ⟨b54, 0, none⟩) 2 2, .int .i64 (-1)] pls_55 zc_55 rfl rfl) ?_
  refine Ops.lit [.int .i64 2] el_26 zsb_3 rfl rfl ⟨by decide, by decide⟩ rfl ?_
  intro b55
  refine Ops.q (q_bld [.slice (some ⟨b55, 0, none⟩) 1 1, .int .i64 2] pls_55 zc_55 rfl rfl) ?_
  refine Ops.lit [.slice none 0 0, .int .i64 0, .slice (some ⟨b53, 0, none⟩) 1 1, .int .i64 1, .slice (some ⟨b54, 0, none⟩) 2 2, .int .i64 (-1), .slice (some ⟨b55, 0, none⟩) 1 1, .int .i64 2] el_52 zsb_55 rfl rfl ⟨by decide, by decide⟩ rfl ?_
  intro b56
  refine Ops.cl (α := (Option Addr × Nat) × (Option Addr × Nat)) (v := fun x => .tuple [.agg [.slice x.1.1 wNh.ns.length x.1.2, .int .i64 wNh.inp, .slice x.2.1 wNh.ss.length x.2.2].toArray, .int .i64 0].toArray) (B := fun x => [row x.1.1 x.1.2 116 8 wNh.ns.length (wNh.ns.flatMap ePrm), row x.2.1 x.2.2 126 4 wNh.ss.length (wNh.ss.flatMap eSyn)]) en_26 rfl (fun w hs => retR_ok (horn_c 3 _ _ [((((none, 0), []), 0) : CL), ((((some ⟨b53, 0, none⟩, 1), ([0] : List Int)), 1) : CL), ((((some ⟨b54, 0, none⟩, 2), ([0, 1] : List Int)), -1) : CL), ((((some ⟨b55, 0, none⟩, 1), ([2] : List Int)), 2) : CL)] w ⟨hs.ownRo .here, List.forall_mem_cons.2 ⟨(Ro.nil _ _), List.forall_mem_cons.2 ⟨hs.ownRo (.there (.there (.there .here))), List.forall_mem_cons.2 ⟨hs.ownRo (.there (.there .here)), List.forall_mem_cons.2 ⟨hs.ownRo (.there .here), fun _ h => by cases h⟩⟩⟩⟩⟩) kNh) ?_
  rintro ⟨⟨p57, pc58⟩, ⟨q59, qc60⟩⟩
  refine Ops.q (q_mv rfl) ?_
  refine Ops.q (q_ext rfl rfl) ?_
  refine Ops.q (q_ext rfl rfl) ?_
  refine Ops.stB [.slice p57 wNh.ns.length pc58, .int .i64 wNh.inp, .slice q59 wNh.ss.length qc60] [.slice p57 wNh.ns.length pc58, .int .i64 wNh.inp, .slice q59 wNh.ss.length qc60] sz_32 rfl rfl rfl (one rfl) (.there (.there (.there (.there (.there (.there .here)))))) rfl rfl ?_
  refine Ops.q (q_asg rfl) ?_
  refine Ops.to rfl ?_
  refine Cd.seq ?_
  refine Cd.seq ?_
  refine Cd.draw rfl (by kernel_rfl) (.cons (.there (.there (.there (.there (.there (.there .here)))))) .nil) ?_
  intro F61 St62 hP63 hF64 hR65
  refine Dr.q (i := 0) hP63 rfl (by kernel_rfl) (q_ldBN [.slice p57 wNh.ns.length pc58, .int .i64 wNh.inp, .slice q59 wNh.ss.length qc60] isA_32 sz_32 rfl .here rfl) ?_
  refine Dr.q (i := 1) hP63 rfl (by kernel_rfl) (q_mv rfl) ?_
  refine Dr.e (i := 2) rfl (by kernel_rfl) ?_
  refine Ops.cp en_39 rfl (fun w hs => at_c 0 0 w) ?_
  refine Dr.back (fun _ hs => hF64 .here hs) ?_
  refine Dr.e (i := 3) rfl (by kernel_rfl) ?_
  refine Ops.lit [.int .i64 0, .int .i64 0] el_27 zsb_88 rfl rfl ⟨by decide, by decide⟩ rfl ?_
  intro b66
  refine Dr.back (fun _ hs => hF64 (.there .here) hs) ?_
  refine Dr.tail 4 (by kernel_rfl) ?_
  refine Ops.sat ?_ (fun _ hs => hR65 (.there .here) hs)
  refine Ops.cl (α := Option Addr × Nat) (v := fun p => .slice p.1 6 p.2) (B := fun p => [row p.1 p.2 88 2 6 [.int .i64 1, .int .i64 4, .int .i64 2, .int .i64 0, .int .i64 3, .int .i64 5, .int .i64 4, .int .i64 1, .int .i64 5, .int .i64 6, .int .i64 6, .int .i64 3]]) en_46 rfl (fun w hs => runW (lawRun_c _ _ _ _ wNh.ns wNh.inp wNh.ss _ _ ([⟨0, 0⟩] : List Evt) 0 9 w (hs.ownRo (.there (.there .here))) (hs.ownRo (.there (.there (.there .here)))) (hs.ownRo (.there .here)) (by exact rowle_any hs (.there .here))) kLh) ?_
  rintro ⟨ra67, rc68⟩
  refine Ops.q (q_asg rfl) ?_
  refine Ops.to rfl ?_
  refine Cd.seq ?_
  refine Cd.rowpos .here (by decide) ?_
  rintro rb rfl
  refine Cd.draw rfl (by kernel_rfl) (.cons .here .nil) ?_
  intro F69 St70 hP71 hF72 hR73
  refine Dr.q (i := 0) hP71 rfl (by kernel_rfl) (q_mv rfl) ?_
  refine Dr.q (i := 1) hP71 rfl (by kernel_rfl) (q_len esz_27 rfl) ?_
  refine Dr.q (i := 2) hP71 rfl (by kernel_rfl) (q_cmp rfl rfl (c_nne (by decide))) ?_
  refine Dr.q (i := 3) hP71 rfl (by kernel_rfl) (q_mv rfl) ?_
  refine Dr.q (i := 4) hP71 rfl (by kernel_rfl) (q_mv rfl) ?_
  refine Dr.q (i := 5) hP71 rfl (by kernel_rfl) (q_ix (k := 1) esz_27 rfl rfl (by omega)) ?_
  refine Dr.q (i := 6) hP71 rfl (by kernel_rfl) (q_ldON [.int .i64 2, .int .i64 0] isA_88 sz_88 rfl .here rfl) ?_
  refine Dr.e (i := 7) rfl (by kernel_rfl) ?_
  refine Ops.cp en_39 rfl (fun w hs => at_c 2 0 w) ?_
  refine Dr.back (fun _ hs => hF72 .here hs) ?_
  refine Dr.q (i := 8) hP71 rfl (by kernel_rfl) (q_neF [2, 0] [2, 0] intS_88 rfl rfl rfl rfl rfl (by decide)) ?_
  refine Dr.q (i := 9) hP71 rfl (by kernel_rfl) (q_pickF rfl rfl) ?_
  refine Dr.q (i := 10) hP71 rfl (by kernel_rfl) (q_mv rfl) ?_
  refine Dr.q (i := 11) hP71 rfl (by kernel_rfl) (q_mv rfl) ?_
  refine Dr.q (i := 12) hP71 rfl (by kernel_rfl) (q_ix (k := 3) esz_27 rfl rfl (by omega)) ?_
  refine Dr.q (i := 13) hP71 rfl (by kernel_rfl) (q_ldON [.int .i64 4, .int .i64 1] isA_88 sz_88 rfl .here rfl) ?_
  refine Dr.e (i := 14) rfl (by kernel_rfl) ?_
  refine Ops.cp en_39 rfl (fun w hs => at_c 4 1 w) ?_
  refine Dr.back (fun _ hs => hF72 .here hs) ?_
  refine Dr.q (i := 15) hP71 rfl (by kernel_rfl) (q_neF [4, 1] [4, 1] intS_88 rfl rfl rfl rfl rfl (by decide)) ?_
  refine Dr.q (i := 16) hP71 rfl (by kernel_rfl) (q_pickF rfl rfl) ?_
  refine Dr.q (i := 17) hP71 rfl (by kernel_rfl) (q_mv rfl) ?_
  refine Dr.q (i := 18) hP71 rfl (by kernel_rfl) (q_mv rfl) ?_
  refine Dr.q (i := 19) hP71 rfl (by kernel_rfl) (q_ix (k := 5) esz_27 rfl rfl (by omega)) ?_
  refine Dr.q (i := 20) hP71 rfl (by kernel_rfl) (q_ldON [.int .i64 6, .int .i64 3] isA_88 sz_88 rfl .here rfl) ?_
  refine Dr.e (i := 21) rfl (by kernel_rfl) ?_
  refine Ops.cp en_39 rfl (fun w hs => at_c 6 3 w) ?_
  refine Dr.back (fun _ hs => hF72 .here hs) ?_
  refine Dr.q (i := 22) hP71 rfl (by kernel_rfl) (q_neF [6, 3] [6, 3] intS_88 rfl rfl rfl rfl rfl (by decide)) ?_
  refine Dr.q (i := 23) hP71 rfl (by kernel_rfl) (q_pickF rfl rfl) ?_
  refine Dr.tail 24 (by kernel_rfl) ?_
  refine Ops.sat ?_ (fun _ hs => hR73 .here hs)
  refine Ops.to rfl ?_
  refine Cd.cond_f rfl ?_
  refine Cd.skipTo rfl ?_
  refine Cd.seq ?_
  refine Cd.sat ?_ (fun _ hs => (((((((((hs.pull (.there .here)).pull (.there .here)).drop.pull (.there .here)).drop.pull (.there .here)).drop.pull (.there .here)).drop.pull (.there .here)).drop.pull (.there .here)).drop.pull (.there .here)).drop.pull (.there .here)).drop)
  refine Cd.region ?_
  refine Ops.lit [.int .i64 0] el_26 zsb_3 rfl rfl ⟨by decide, by decide⟩ rfl ?_
  intro b74
  refine Ops.lit [.int .i64 1] el_26 zsb_3 rfl rfl ⟨by decide, by decide⟩ rfl ?_
  intro b75
  refine Ops.q (q_bld [.slice (some ⟨b74, 0, none⟩) 1 1, .slice (some ⟨b75, 0, none⟩) 1 1] pls_61 zc_61 rfl rfl) ?_
  refine Ops.lit [.slice (some ⟨b74, 0, none⟩) 1 1, .slice (some ⟨b75, 0, none⟩) 1 1] el_58 zsb_61 rfl rfl ⟨by decide, by decide⟩ rfl ?_
  intro b76
  refine Ops.cl (α := (Option Addr × Nat) × (Option Addr × Nat)) (v := fun x => .tuple [.agg [.slice x.1.1 wNr.ns.length x.1.2, .int .i64 wNr.inp, .slice x.2.1 wNr.ss.length x.2.2].toArray, .int .i64 0].toArray) (B := fun x => [row x.1.1 x.1.2 116 8 wNr.ns.length (wNr.ns.flatMap ePrm), row x.2.1 x.2.2 126 4 wNr.ss.length (wNr.ss.flatMap eSyn)]) en_28 rfl (fun w hs => retR_ok (memory_c 2 2 _ _ [(((((some ⟨b74, 0, none⟩, 1), [0]), ((some ⟨b75, 0, none⟩, 1), [1]))) : PR)] w ⟨hs.ownRo .here, List.forall_mem_cons.2 ⟨⟨hs.ownRo (.there (.there .here)), hs.ownRo (.there .here)⟩, fun _ h => by cases h⟩⟩ (List.forall_mem_cons.2 ⟨⟨(show (1 : Nat) ≤ 1000000 by decide), (show (1 : Nat) ≤ 1000000 by decide)⟩, fun _ h => by cases h⟩)) kNr) ?_
  rintro ⟨⟨p77, pc78⟩, ⟨q79, qc80⟩⟩
  refine Ops.q (q_mv rfl) ?_
  refine Ops.q (q_ext rfl rfl) ?_
  refine Ops.q (q_ext rfl rfl) ?_
  refine Ops.stB [.slice p77 wNr.ns.length pc78, .int .i64 wNr.inp, .slice q79 wNr.ss.length qc80] [.slice p77 wNr.ns.length pc78, .int .i64 wNr.inp, .slice q79 wNr.ss.length qc80] sz_32 rfl rfl rfl (one rfl) (.there (.there (.there (.there (.there .here))))) rfl rfl ?_
  refine Ops.q (q_asg rfl) ?_
  refine Ops.to rfl ?_
  refine Cd.seq ?_
  refine Cd.seq ?_
  refine Cd.draw rfl (by kernel_rfl) (.cons (.there (.there (.there (.there (.there .here))))) .nil) ?_
  intro F81 St82 hP83 hF84 hR85
  refine Dr.q (i := 0) hP83 rfl (by kernel_rfl) (q_ldBN [.slice p77 wNr.ns.length pc78, .int .i64 wNr.inp, .slice q79 wNr.ss.length qc80] isA_32 sz_32 rfl .here rfl) ?_
  refine Dr.q (i := 1) hP83 rfl (by kernel_rfl) (q_mv rfl) ?_
  refine Dr.e (i := 2) rfl (by kernel_rfl) ?_
  refine Ops.cp en_39 rfl (fun w hs => at_c 4 0 w) ?_
  refine Dr.back (fun _ hs => hF84 .here hs) ?_
  refine Dr.e (i := 3) rfl (by kernel_rfl) ?_
  refine Ops.cp en_39 rfl (fun w hs => at_c 4 2 w) ?_
  refine Dr.back (fun _ hs => hF84 .here hs) ?_
  refine Dr.e (i := 4) rfl (by kernel_rfl) ?_
  refine Ops.lit [.int .i64 4, .int .i64 0, .int .i64 4, .int .i64 2] el_27 zsb_88 rfl rfl ⟨by decide, by decide⟩ rfl ?_
  intro b86
  refine Dr.back (fun _ hs => hF84 (.there .here) hs) ?_
  refine Dr.e (i := 5) rfl (by kernel_rfl) ?_
  refine Ops.cl (α := Option Addr × Nat) (v := fun p => .slice p.1 1 p.2) (B := fun p => [row p.1 p.2 88 2 1 [.int .i64 5, .int .i64 1]]) en_46 rfl (fun w hs => runW (lawRun_c _ _ _ _ wNr.ns wNr.inp wNr.ss _ _ ([⟨4, 0⟩, ⟨4, 2⟩] : List Evt) 0 9 w (hs.ownRo (.there (.there .here))) (hs.ownRo (.there (.there (.there .here)))) (hs.ownRo .here) (by exact rowle_any hs .here)) kLr) ?_
  rintro ⟨ra87, rc88⟩
  refine Dr.back (fun _ hs => hF84 (.there (.there .here)) hs) ?_
  refine Dr.e (i := 6) rfl (by kernel_rfl) ?_
  refine Ops.cp en_39 rfl (fun w hs => at_c 5 1 w) ?_
  refine Dr.back (fun _ hs => hF84 (.there (.there .here)) hs) ?_
  refine Dr.e (i := 7) rfl (by kernel_rfl) ?_
  refine Ops.lit [.int .i64 5, .int .i64 1] el_27 zsb_88 rfl rfl ⟨by decide, by decide⟩ rfl ?_
  intro b89
  refine Dr.back (fun _ hs => hF84 (.there (.there (.there .here))) hs) ?_
  refine Dr.e (i := 8) rfl (by kernel_rfl) ?_
  refine Ops.cp en_20 rfl (fun w hs => dT (events_c _ _ _ _ ([⟨5, 1⟩] : List Evt) ([⟨5, 1⟩] : List Evt) w (hs.ownRo (.there .here)) (hs.ownRo .here) (by decide)) rfl) ?_
  refine Dr.back (fun _ hs => hF84 (.there (.there (.there .here))) hs) ?_
  refine Dr.q (i := 9) hP83 rfl (by kernel_rfl) (q_not rfl) ?_
  refine Dr.tail 10 (by kernel_rfl) ?_
  refine Ops.sat ?_ (fun _ hs => hR85 (.there (.there (.there .here))) hs)
  refine Ops.to rfl ?_
  refine Cd.cond_f rfl ?_
  refine Cd.skipTo rfl ?_
  refine Cd.seq ?_
  refine Cd.sat ?_ (fun _ hs => (((((((((hs.pull .here).pull (.there .here)).drop.pull (.there .here)).drop.pull (.there .here)).drop.pull (.there .here)).drop.pull (.there .here)).drop.pull (.there .here)).drop.pull (.there .here)).drop.pull (.there .here)).drop)
  refine Cd.region ?_
  refine Ops.q (q_bld [.int .i64 0, .int .i64 5, .int .i64 1] pls_70 zc_70 rfl rfl) ?_
  refine Ops.lit [.int .i64 0, .int .i64 5, .int .i64 1] el_67 zsb_70 rfl rfl ⟨by decide, by decide⟩ rfl ?_
  intro b90
  refine Ops.cl (α := (Option Addr × Nat) × (Option Addr × Nat)) (v := fun x => .tuple [.agg [.slice x.1.1 wNc.ns.length x.1.2, .int .i64 wNc.inp, .slice x.2.1 wNc.ss.length x.2.2].toArray, .int .i64 0].toArray) (B := fun x => [row x.1.1 x.1.2 116 8 wNc.ns.length (wNc.ns.flatMap ePrm), row x.2.1 x.2.2 126 4 wNc.ss.length (wNc.ss.flatMap eSyn)]) en_30 rfl (fun w hs => retR_ok (count_c 1 _ _ [⟨0, 5, 1⟩] 2 w (hs.ownRo .here)) kNc) ?_
  rintro ⟨⟨p91, pc92⟩, ⟨q93, qc94⟩⟩
  refine Ops.q (q_mv rfl) ?_
  refine Ops.q (q_ext rfl rfl) ?_
  refine Ops.q (q_ext rfl rfl) ?_
  refine Ops.stB [.slice p91 wNc.ns.length pc92, .int .i64 wNc.inp, .slice q93 wNc.ss.length qc94] [.slice p91 wNc.ns.length pc92, .int .i64 wNc.inp, .slice q93 wNc.ss.length qc94] sz_32 rfl rfl rfl (one rfl) (.there (.there (.there .here))) rfl rfl ?_
  refine Ops.q (q_asg rfl) ?_
  refine Ops.to rfl ?_
  refine Cd.seq ?_
  refine Cd.seq ?_
  refine Cd.draw rfl (by kernel_rfl) (.cons (.there (.there (.there .here))) .nil) ?_
  intro F95 St96 hP97 hF98 hR99
  refine Dr.q (i := 0) hP97 rfl (by kernel_rfl) (q_ldBN [.slice p91 wNc.ns.length pc92, .int .i64 wNc.inp, .slice q93 wNc.ss.length qc94] isA_32 sz_32 rfl .here rfl) ?_
  refine Dr.q (i := 1) hP97 rfl (by kernel_rfl) (q_mv rfl) ?_
  refine Dr.e (i := 2) rfl (by kernel_rfl) ?_
  refine Ops.cp en_39 rfl (fun w hs => at_c 0 0 w) ?_
  refine Dr.back (fun _ hs => hF98 .here hs) ?_
  refine Dr.e (i := 3) rfl (by kernel_rfl) ?_
  refine Ops.lit [.int .i64 0, .int .i64 0] el_27 zsb_88 rfl rfl ⟨by decide, by decide⟩ rfl ?_
  intro b100
  refine Dr.back (fun _ hs => hF98 (.there .here) hs) ?_
  refine Dr.tail 4 (by kernel_rfl) ?_
  refine Ops.sat ?_ (fun _ hs => hR99 (.there .here) hs)
  refine Ops.cl (α := Option Addr × Nat) (v := fun p => .slice p.1 2 p.2) (B := fun p => [row p.1 p.2 88 2 2 [.int .i64 1, .int .i64 0, .int .i64 2, .int .i64 0]]) en_46 rfl (fun w hs => runW (lawRun_c _ _ _ _ wNc.ns wNc.inp wNc.ss _ _ ([⟨0, 0⟩] : List Evt) 0 9 w (hs.ownRo (.there (.there .here))) (hs.ownRo (.there (.there (.there .here)))) (hs.ownRo (.there .here)) (by exact rowle_any hs (.there .here))) kLc) ?_
  rintro ⟨ra101, rc102⟩
  refine Ops.cp en_39 rfl (fun w hs => at_c 1 0 w) ?_
  refine Ops.cp en_39 rfl (fun w hs => at_c 2 0 w) ?_
  refine Ops.lit [.int .i64 1, .int .i64 0, .int .i64 2, .int .i64 0] el_27 zsb_88 rfl rfl ⟨by decide, by decide⟩ rfl ?_
  intro b103
  refine Ops.cp en_20 rfl (fun w hs => dT (events_c _ _ _ _ ([⟨1, 0⟩, ⟨2, 0⟩] : List Evt) ([⟨1, 0⟩, ⟨2, 0⟩] : List Evt) w (hs.ownRo (.there .here)) (hs.ownRo .here) (by decide)) rfl) ?_
  refine Ops.q (q_not rfl) ?_
  refine Ops.to rfl ?_
  refine Cd.cond_f rfl ?_
  refine Cd.skipTo rfl ?_
  refine Cd.seq ?_
  refine Cd.sat ?_ (fun _ hs => (((((((hs.pull (.there (.there .here))).pull (.there .here)).drop.pull (.there .here)).drop.pull (.there .here)).drop.pull (.there .here)).drop.pull (.there .here)).drop.pull (.there .here)).drop)
  refine Cd.region ?_
  refine Ops.q (q_bld [.int .i64 0, .int .i64 0] pls_76 zc_76 rfl rfl) ?_
  refine Ops.q (q_bld [.int .i64 1, .int .i64 3] pls_76 zc_76 rfl rfl) ?_
  refine Ops.lit [.int .i64 0, .int .i64 0, .int .i64 1, .int .i64 3] el_73 zsb_76 rfl rfl ⟨by decide, by decide⟩ rfl ?_
  intro b104
  refine Ops.cl (α := (Option Addr × Nat) × (Option Addr × Nat)) (v := fun x => .tuple [.agg [.slice x.1.1 wNq.ns.length x.1.2, .int .i64 wNq.inp, .slice x.2.1 wNq.ss.length x.2.2].toArray, .int .i64 0].toArray) (B := fun x => [row x.1.1 x.1.2 116 8 wNq.ns.length (wNq.ns.flatMap ePrm), row x.2.1 x.2.2 126 4 wNq.ss.length (wNq.ss.flatMap eSyn)]) en_32 rfl (fun w hs => retR_ok (pattern_c 2 _ _ [⟨0, 0⟩, ⟨1, 3⟩] 0 w (hs.ownRo .here) (by decide)) kNq) ?_
  rintro ⟨⟨p105, pc106⟩, ⟨q107, qc108⟩⟩
  refine Ops.q (q_mv rfl) ?_
  refine Ops.q (q_ext rfl rfl) ?_
  refine Ops.q (q_ext rfl rfl) ?_
  refine Ops.stB [.slice p105 wNq.ns.length pc106, .int .i64 wNq.inp, .slice q107 wNq.ss.length qc108] [.slice p105 wNq.ns.length pc106, .int .i64 wNq.inp, .slice q107 wNq.ss.length qc108] sz_32 rfl rfl rfl (one rfl) (.there (.there (.there .here))) rfl rfl ?_
  refine Ops.q (q_asg rfl) ?_
  refine Ops.to rfl ?_
  refine Cd.seq ?_
  refine Cd.draw rfl (by kernel_rfl) (.cons (.there (.there (.there .here))) .nil) ?_
  intro F109 St110 hP111 hF112 hR113
  refine Dr.q (i := 0) hP111 rfl (by kernel_rfl) (q_ldBN [.slice p105 wNq.ns.length pc106, .int .i64 wNq.inp, .slice q107 wNq.ss.length qc108] isA_32 sz_32 rfl .here rfl) ?_
  refine Dr.q (i := 1) hP111 rfl (by kernel_rfl) (q_mv rfl) ?_
  refine Dr.e (i := 2) rfl (by kernel_rfl) ?_
  refine Ops.cp en_39 rfl (fun w hs => at_c 1 0 w) ?_
  refine Dr.back (fun _ hs => hF112 .here hs) ?_
  refine Dr.e (i := 3) rfl (by kernel_rfl) ?_
  refine Ops.cp en_39 rfl (fun w hs => at_c 4 1 w) ?_
  refine Dr.back (fun _ hs => hF112 .here hs) ?_
  refine Dr.e (i := 4) rfl (by kernel_rfl) ?_
  refine Ops.lit [.int .i64 1, .int .i64 0, .int .i64 4, .int .i64 1] el_27 zsb_88 rfl rfl ⟨by decide, by decide⟩ rfl ?_
  intro b114
  refine Dr.back (fun _ hs => hF112 (.there .here) hs) ?_
  refine Dr.e (i := 5) rfl (by kernel_rfl) ?_
  refine Ops.cl (α := Option Addr × Nat) (v := fun p => .slice p.1 1 p.2) (B := fun p => [row p.1 p.2 88 2 1 [.int .i64 17, .int .i64 0]]) en_46 rfl (fun w hs => runW (lawRun_c _ _ _ _ wNq.ns wNq.inp wNq.ss _ _ ([⟨1, 0⟩, ⟨4, 1⟩] : List Evt) 0 20 w (hs.ownRo (.there (.there .here))) (hs.ownRo (.there (.there (.there .here)))) (hs.ownRo .here) (by exact rowle_any hs .here)) kLq) ?_
  rintro ⟨ra115, rc116⟩
  refine Dr.back (fun _ hs => hF112 (.there (.there .here)) hs) ?_
  refine Dr.e (i := 6) rfl (by kernel_rfl) ?_
  refine Ops.cp en_39 rfl (fun w hs => at_c 17 0 w) ?_
  refine Dr.back (fun _ hs => hF112 (.there (.there .here)) hs) ?_
  refine Dr.e (i := 7) rfl (by kernel_rfl) ?_
  refine Ops.lit [.int .i64 17, .int .i64 0] el_27 zsb_88 rfl rfl ⟨by decide, by decide⟩ rfl ?_
  intro b117
  refine Dr.back (fun _ hs => hF112 (.there (.there (.there .here))) hs) ?_
  refine Dr.e (i := 8) rfl (by kernel_rfl) ?_
  refine Ops.cp en_20 rfl (fun w hs => dT (events_c _ _ _ _ ([⟨17, 0⟩] : List Evt) ([⟨17, 0⟩] : List Evt) w (hs.ownRo (.there .here)) (hs.ownRo .here) (by decide)) rfl) ?_
  refine Dr.back (fun _ hs => hF112 (.there (.there (.there .here))) hs) ?_
  refine Dr.tail 9 (by kernel_rfl) ?_
  refine Ops.sat ?_ (fun _ hs => hR113 (.there (.there (.there .here))) hs)
  refine Ops.q (q_asg rfl) ?_
  refine Ops.to rfl ?_
  refine Cd.rt (fn := Try.f13) [.bool true] (by with_reducible repeat (first | exact rq_here | apply rq_then | apply rq_block)) rfl ⟨rfl, trivial⟩ ?_
  intro w' hs'
  exact ⟨rfl, hs'.none⟩
end Go.Proofs.Ytilcdghliigngaa
namespace Go.Proofs.Ytilcdghliigngaa
open Go.RowKit Go.Proofs.YtilcdghliigngaaGl Go.Proofs.YtilcdghliigngaaPm
set_option linter.unusedVariables false
set_option linter.unusedSimpArgs false
end Go.Proofs.Ytilcdghliigngaa
namespace Go.Proofs.Ytilcdghliigngaa
open Go.RowKit Go.Proofs.YtilcdghliigngaaGl Go.Proofs.YtilcdghliigngaaPm
set_option linter.unusedVariables false
set_option linter.unusedSimpArgs false
end Go.Proofs.Ytilcdghliigngaa
namespace Go.Proofs.Ytilcdghliigngaa
open Go.RowKit Go.Proofs.YtilcdghliigngaaGl Go.Proofs.YtilcdghliigngaaPm
set_option linter.unusedVariables false
set_option linter.unusedSimpArgs false
end Go.Proofs.Ytilcdghliigngaa
namespace Go.Proofs.YtilcdghliigngaaGl
set_option linter.unusedVariables false
set_option linter.unusedSimpArgs false
open Go.RowKit
section
variable {P : Program} {r : Option Nat} {ops : Array Oper} {Q : Exit → Act → World → Prop} {w0 : World} {n : Nat} {D : List Deferred} {rest : List Oper} {L : Env} {A : List Atom}
theorem Ops.ropos {φ : World → Prop} {a : Option Addr} {cs : List Value} {A' : List Atom} (hp : Pull A (rd φ) A') (hφ : ∀ w, φ w → Ro w a cs) (hne : 0 < cs.length) (h : ∀ b o, a = some ⟨b, o, none⟩ → Ops P r ops Q w0 n D rest L A) : Ops P r ops Q w0 n D rest L A := by
  intro ac w hk hs
  obtain ⟨b, o, e⟩ := (hφ w (hs.read hp)).pos hne
  exact h b o e ac w hk hs
theorem fm_pos {α : Type} {enc : α → List Value} {sz : Nat} (h : ∀ x, (enc x).length = sz + 1) {xs : List α} {k : Nat} {x : α} (hx : xs[k]? = some x) : 0 < (xs.flatMap enc).length := by
  have := (List.getElem?_eq_some_iff.1 hx).1
  rw [fm_length h]
  exact Nat.mul_pos (by omega) (Nat.succ_pos _)
end
end Go.Proofs.YtilcdghliigngaaGl
namespace Go.Proofs.Ytilcdghliigngaa
open Go.RowKit Go.Proofs.YtilcdghliigngaaGl Go.Proofs.YtilcdghliigngaaPm
set_option linter.unusedVariables false
set_option linter.unusedSimpArgs false
def LstO (m : Nat) (l : List Int) : Prop := (∀ i ∈ l, 0 ≤ i ∧ i < (m : Int)) ∧ l.Pairwise (· < ·) ∧ l.length ≤ m
theorem LstO.set {m : Nat} {l : List Int} (h : LstO m l) : setE (m : Int) l = 0 := by
  unfold setE
  rw [if_pos (fun x hx => by have := h.1 x hx; unfold wi; omega), if_pos (show l.Nodup from h.2.1.imp (fun h => by omega))]
theorem run_some_n (na : Option Addr) (nc : Nat) (sa : Option Addr) (sc : Nat) (ns : List Prm) (ip : Int) (ss : List Syn) (ea : Option Addr) (ec : Nat) (evs : List Evt) (n : Nat) (hn : evs.length = n) (t : Int) (w : World) (hN : RoL w na ePrm ns) (hS : RoL w sa eSyn ss) (hE : RoL w ea eEvt evs) (hec : n ≤ ec) (out : List Evt) (hp : preparedE ⟨ns, ip, ss⟩ evs t 10000 = 0) (hr : runN ⟨ns, ip, ss⟩ evs t.toNat = some out) : Calls Try.prog 36 [.agg [.slice na ns.length nc, .int .i64 ip, .slice sa ss.length sc].toArray, .slice ea n ec, .int .i64 t].toArray w fun e w' => ∃ p : Option Addr × Nat, e = .returned (.tuple [.slice p.1 out.length p.2, .int .i64 0].toArray) ∧ Sat w w' [row p.1 p.2 88 2 out.length (out.flatMap eEvt)] := by
  subst hn; exact run_some na nc sa sc ns ip ss ea ec evs t w hN hS hE hec out hp hr
theorem chk0R {vs : Array Value} {w : World} {N : NetP} (h : Calls Try.prog 35 vs w fun e w' => e = .returned (.int .i64 (netCheck N)) ∧ Sat w w' []) (hz : netCheck N = 0) : Calls Try.prog 35 vs w fun e w' => e = .returned (.int .i64 0) ∧ Sat w w' [] := by
  rwa [hz] at h
end Go.Proofs.Ytilcdghliigngaa
namespace Go.Proofs.Ytilcdghliigngaa
open Go.RowKit Go.Proofs.YtilcdghliigngaaGl Go.Proofs.YtilcdghliigngaaPm
set_option linter.unusedVariables false
set_option linter.unusedSimpArgs false
def eU8 (x : Int) : List Value := [.int .u8 x]
theorem eU8_len (x : Int) : (eU8 x).length = 1 := rfl
end Go.Proofs.Ytilcdghliigngaa
namespace Go.Proofs.Ytilcdghliigngaa
open Go.RowKit Go.Proofs.YtilcdghliigngaaGl Go.Proofs.YtilcdghliigngaaPm
set_option linter.unusedVariables false
set_option linter.unusedSimpArgs false
def shA (x : Int) (k : Nat) : Int := x.fdiv (2 ^ min k IntKind.u32.bits)
def anA (x : Int) (k : Nat) : Int := IntKind.u32.wrap ((BitVec.ofInt IntKind.u32.bits (shA x k) &&& BitVec.ofInt IntKind.u32.bits 1).toNat)
def accB (x : Int) (i : Nat) : Bool := anA x i == 1
def accL (x : Int) (s : Nat) : List Bool := (List.range s).map (accB x)
theorem accL_succ (x : Int) (s : Nat) : accL x (s + 1) = accL x s ++ [anA x s == 1] := by
  unfold accL; rw [List.range_succ, List.map_append]; rfl
theorem accL_len (x : Int) (s : Nat) : (accL x s).length = s := by unfold accL; simp
theorem a_mulN {i j : Nat} (h : i * j ≤ 1000000) : arV .mul .i64 (i : Int) (j : Int) = some ((i * j : Nat) : Int) := by
  rw [Int.natCast_mul]; exact a_mul (by rw [← Int.natCast_mul]; omega)
theorem a_addN {i j : Nat} (h : i + j ≤ 1000000) : arV .add .i64 (i : Int) (j : Int) = some ((i + j : Nat) : Int) := by
  rw [Int.natCast_add]; exact a_add (by omega)
theorem a_remN {i j : Nat} (h : 0 < j) : arV .rem .i64 (i : Int) (j : Int) = some ((i % j : Nat) : Int) := by
  rw [Int.natCast_emod]; exact a_rem (by omega) (by omega)
theorem machine_q {na : Option Addr} {nc q : Nat} {lz : List NL} {st : Int} {aa : Option Addr} {ac : Nat} {acc : List Bool} {w : World} {X : List (List Int)} {N : NetP} (hz : lz.map (fun l : NL => l.2) = X) (hq : lz.length = q) (ha : acc.length = q) (hN : machineP X st acc = .ok N) (h : RoLL w na lz ∧ RoL w aa eBool acc) :
    Calls Try.prog 14 [.agg [.slice na q nc, .int .i64 st, .slice aa q ac].toArray].toArray w fun e w' => ∃ x : (Option Addr × Nat) × (Option Addr × Nat), e = .returned (.tuple #[.agg #[.slice x.1.1 N.ns.length x.1.2, .int .i64 N.inp, .slice x.2.1 N.ss.length x.2.2], .int .i64 0]) ∧ Sat w w' [row x.1.1 x.1.2 116 8 N.ns.length (N.ns.flatMap ePrm), row x.2.1 x.2.2 126 4 N.ss.length (N.ss.flatMap eSyn)] := by
  subst hq; subst hz; have := machine_c na nc lz st aa ac acc w h.1 h.2; rw [ha] at this; exact retR_ok this hN
theorem word_q {na : Option Addr} {nc q : Nat} {lz : List NL} {st : Int} {aa : Option Addr} {al ac : Nat} {wa : Option Addr} {wc : Nat} {ws : List Int} {w : World} {X : List (List Int)} {E : List Evt} (hz : lz.map (fun l : NL => l.2) = X) (hq : lz.length = q) (hE : wordP X st al ws = .ok E) (h : RoLL w na lz) (hW : RoL w wa eInt ws) :
    Calls Try.prog 18 [.agg [.slice na q nc, .int .i64 st, .slice aa al ac].toArray, .slice wa ws.length wc].toArray w fun e w' => ∃ p : Option Addr × Nat, e = .returned (.tuple #[.slice p.1 E.length p.2, .int .i64 0]) ∧ Sat w w' [row p.1 p.2 88 2 E.length (E.flatMap eEvt)] := by
  subst hq; subst hz; exact retE_ok (word_c na nc lz st aa al ac wa wc ws w h hW) hE
abbrev AutoX (X : List (List Int)) := {r : (Option Addr × Nat) × List NL × (Option Addr × Nat) // r.2.1.map (fun l : NL => l.2) = X}
theorem len_of_map {lz : List NL} {X : List (List Int)} {q : Nat} (h : lz.map (fun l : NL => l.2) = X) (hX : X.length = q) : lz.length = q := by rw [← hX, ← h, List.length_map]
theorem get_of_map {lz : List NL} {X : List (List Int)} {i : Nat} {l : NL} (h : lz.map (fun l : NL => l.2) = X) (hl : lz[i]? = some l) : X[i]? = some l.2 := by rw [← h, List.getElem?_map, hl]; rfl
theorem made_c (sb yb ab tb : Int) (q n s0 : Nat) (xa : Option Addr) (xc : Nat) (xs : List Int) (w : World) (hX : RoL w xa eU8 xs) (hb : ∀ x ∈ xs, 0 ≤ x ∧ x ≤ 255) (hsb : 0 ≤ sb ∧ sb ≤ 255) (hyb : 0 ≤ yb ∧ yb ≤ 255) (htb : 0 ≤ tb ∧ tb ≤ 255) (hq : 1 + sb % 8 = (q : Int)) (hn : 1 + yb % 4 = (n : Int)) (hs0 : tb % (q : Int) = (s0 : Int)) : Calls Try.prog 40 [.int .u8 sb, .int .u8 yb, .slice xa xs.length xc, .int .u32 ab, .int .u8 tb].toArray w fun e w' => ∃ r : AutoX (mdNx q n xs q), e = .returned (.agg [.slice r.1.1.1 q r.1.1.2, .int .i64 (s0 : Int), .slice r.1.2.2.1 q r.1.2.2.2].toArray) ∧ Sat w w' [rd (fun w => RoLL w r.1.1.1 r.1.2.1 ∧ RoL w r.1.2.2.1 eBool (accL ab q))] := by
  refine fstart Try.func40 rfl rfl (Sat.nil w) ?_
  refine Cd.seq ?_
  refine Cd.region ?_
  refine Ops.alc [.slice none 0 0, .int .i64 0, .slice none 0 0] zc_36 ?_
  intro b1
  refine Ops.to rfl ?_
  refine Cd.seq ?_
  refine Cd.region ?_
  refine Ops.q (q_mv rfl) ?_
  refine Ops.q (q_conv iK_5 iK_3 rfl (IntWalk.i64_in _ (by omega))) ?_
  refine Ops.q (q_ar rfl rfl (a_rem (by omega) (by omega))) ?_
  refine Ops.q (q_ar rfl rfl (a_add (by omega))) ?_
  refine Ops.q (q_mv rfl) ?_
  refine Ops.q (q_conv iK_5 iK_3 rfl (IntWalk.i64_in _ (by omega))) ?_
  refine Ops.q (q_ar rfl rfl (a_rem (by omega) (by omega))) ?_
  refine Ops.q (q_ar rfl rfl (a_add (by omega))) ?_
  refine Ops.q (q_asg rfl) ?_
  refine Ops.q (q_asg rfl) ?_
  refine Ops.to rfl ?_
  refine Cd.seq ?_
  refine Cd.region ?_
  rw [hq, hn]
  refine Ops.q (q_mv rfl) ?_
  refine Ops.q (q_conv iK_5 iK_3 rfl (IntWalk.i64_in _ (by omega))) ?_
  refine Ops.q (q_mv rfl) ?_
  refine Ops.q (q_ar (v := (s0 : Int)) rfl rfl ((by rw [a_rem (by omega) (by omega), hs0]))) ?_
  refine Ops.q (q_bld [.slice none 0 0, .int .i64 (s0 : Int), .slice none 0 0] pls_36 zc_36 rfl rfl) ?_
  refine Ops.alc [.slice none 0 0, .int .i64 0, .slice none 0 0] zc_36 ?_
  intro b2
  refine Ops.stB [.slice none 0 0, .int .i64 (s0 : Int), .slice none 0 0] [.slice none 0 0, .int .i64 (s0 : Int), .slice none 0 0] sz_36 rfl rfl rfl (one rfl) .here rfl rfl ?_
  refine Ops.to rfl ?_
  refine Cd.seq ?_
  refine Cd.seq ?_
  refine Cd.region ?_
  refine Ops.q (q_mv rfl) ?_
  refine Ops.q (q_mv rfl) ?_
  refine Ops.to rfl ?_
  refine Cd.block ?_
  refine Cd.lp (σ := Nat × List NL × Option Addr × Nat × Option Addr × Nat) (fun s => s.1 ≤ q ∧ s.2.1.map (fun l : NL => l.2) = mdNx q n xs s.1) (fun s => [(2, .slice xa xs.length xc), (3, .int .u32 ab), (10, .pointer (some ⟨b1, 0, none⟩)), (11, .int .i64 (q : Int)), (12, .int .i64 (n : Int)), (13, .pointer (some ⟨b2, 0, none⟩)), (31, .int .i64 (q : Int)), (32, .int .i64 (s.1 : Int))]) (fun s => [blk b2 36 [.slice s.2.2.1 s.2.1.length s.2.2.2.1, .int .i64 (s0 : Int), .slice s.2.2.2.2.1 s.1 s.2.2.2.2.2], row s.2.2.1 s.2.2.2.1 26 1 s.2.1.length (s.2.1.flatMap eNL), rd (nlR s.2.1), row s.2.2.2.2.1 s.2.2.2.2.2 4 1 s.1 ((accL ab s.1).flatMap eBool), blk b1 36 [.slice none 0 0, .int .i64 0, .slice none 0 0]]) (fun s => q - s.1) (0, [], none, 0, none, 0) ⟨Nat.zero_le _, rfl⟩ ⟨rfl, rfl, rfl, rfl, rfl, rfl, rfl, rfl, trivial⟩ (fun _ hs => by have h1 := rdNew (φ := nlR []) (Sat.nilRow (Sat.nilRow (((hs.pull (.there .here)).pull (.there .here))) 4 1) 26 1) (by intro w l hl; cases hl); exact (h1.pull (.there .here)).pull (.there (.there (.there .here)))) ?_
  rintro ⟨i, lz, na, nc, aa, ac⟩ hI
  dsimp only at hI
  change Cd _ _ _ _ _ _ _ [(2, .slice xa xs.length xc), (3, .int .u32 ab), (10, .pointer (some ⟨b1, 0, none⟩)), (11, .int .i64 (q : Int)), (12, .int .i64 (n : Int)), (13, .pointer (some ⟨b2, 0, none⟩)), (31, .int .i64 (q : Int)), (32, .int .i64 (i : Int))] ([blk b2 36 [.slice na lz.length nc, .int .i64 (s0 : Int), .slice aa i ac], row na nc 26 1 lz.length (lz.flatMap eNL), rd (nlR lz), row aa ac 4 1 i ((accL ab i).flatMap eBool), blk b1 36 [.slice none 0 0, .int .i64 0, .slice none 0 0]])
  have hI0 := hI
  have hI1 := hI.1
  have hlz : lz.length = i := len_of_map hI.2 (mdNx_len ..)
  refine Cd.seq ?_
  refine Cd.region ?_
  by_cases hk : (i : Int) < (q : Int)
  · refine Ops.q (q_cmp rfl rfl (c_lt hk)) ?_
    refine Ops.to rfl ?_
    refine Cd.seq ?_
    refine Cd.cond_t rfl ?_
    refine Cd.skipTo rfl ?_
    refine Cd.seq ?_
    refine Cd.block ?_
    refine Cd.seq ?_
    refine Cd.region ?_
    refine Ops.q (q_mv rfl) ?_
    refine Ops.q (q_asg rfl) ?_
    refine Ops.to rfl ?_
    refine Cd.seq ?_
    refine Cd.region ?_
    refine Ops.q (q_asg rfl) ?_
    refine Ops.to rfl ?_
    refine Cd.seq ?_
    refine Cd.seq ?_
    refine Cd.region ?_
    refine Ops.q (q_mv rfl) ?_
    refine Ops.q (q_mv rfl) ?_
    refine Ops.to rfl ?_
    refine Cd.block ?_
    refine Cd.lp (σ := Nat × Option Addr × Nat) (fun s => s.1 ≤ n) (fun s => [(2, .slice xa xs.length xc), (3, .int .u32 ab), (10, .pointer (some ⟨b1, 0, none⟩)), (11, .int .i64 (q : Int)), (12, .int .i64 (n : Int)), (13, .pointer (some ⟨b2, 0, none⟩)), (14, .int .i64 (i : Int)), (31, .int .i64 (q : Int)), (32, .int .i64 (i : Int)), (15, .slice s.2.1 s.1 s.2.2), (35, .int .i64 (n : Int)), (36, .int .i64 (s.1 : Int))]) (fun s => [row s.2.1 s.2.2 3 1 s.1 ((mdRow q n xs i s.1).flatMap eInt), blk b2 36 [.slice na lz.length nc, .int .i64 (s0 : Int), .slice aa i ac], row na nc 26 1 lz.length (lz.flatMap eNL), rd (nlR lz), row aa ac 4 1 i ((accL ab i).flatMap eBool), blk b1 36 [.slice none 0 0, .int .i64 0, .slice none 0 0]]) (fun s => n - s.1) (0, none, 0) (Nat.zero_le _) ⟨rfl, rfl, rfl, rfl, rfl, rfl, rfl, rfl, rfl, rfl, rfl, rfl, trivial⟩ (fun _ hs => by have h1 := ((((((hs.pull (.there (.there (.there (.there .here))))).pull (.there (.there (.there (.there .here))))).pull (.there (.there (.there (.there .here))))).pull (.there (.there (.there (.there .here))))).pull (.there (.there (.there (.there .here)))))).nilRow 3 1; exact h1) ?_
    rintro ⟨c, ra, rc⟩ hI
    dsimp only at hI
    change Cd _ _ _ _ _ _ _ [(2, .slice xa xs.length xc), (3, .int .u32 ab), (10, .pointer (some ⟨b1, 0, none⟩)), (11, .int .i64 (q : Int)), (12, .int .i64 (n : Int)), (13, .pointer (some ⟨b2, 0, none⟩)), (14, .int .i64 (i : Int)), (31, .int .i64 (q : Int)), (32, .int .i64 (i : Int)), (15, .slice ra c rc), (35, .int .i64 (n : Int)), (36, .int .i64 (c : Int))] ([row ra rc 3 1 c ((mdRow q n xs i c).flatMap eInt), blk b2 36 [.slice na lz.length nc, .int .i64 (s0 : Int), .slice aa i ac], row na nc 26 1 lz.length (lz.flatMap eNL), rd (nlR lz), row aa ac 4 1 i ((accL ab i).flatMap eBool), blk b1 36 [.slice none 0 0, .int .i64 0, .slice none 0 0]])
    refine Cd.seq ?_
    refine Cd.region ?_
    by_cases hkc : (c : Int) < (n : Int)
    · refine Ops.q (q_cmp rfl rfl (c_lt hkc)) ?_
      refine Ops.to rfl ?_
      refine Cd.seq ?_
      refine Cd.cond_t rfl ?_
      refine Cd.skipTo rfl ?_
      refine Cd.seq ?_
      refine Cd.block ?_
      refine Cd.seq ?_
      refine Cd.region ?_
      refine Ops.q (q_mv rfl) ?_
      refine Ops.q (q_asg rfl) ?_
      refine Ops.to rfl ?_
      refine Cd.seq ?_
      refine Cd.region ?_
      refine Ops.q (q_asg rfl) ?_
      refine Ops.to rfl ?_
      refine Cd.seq ?_
      refine Cd.seq ?_
      refine Cd.region ?_
      refine Ops.q (q_mv rfl) ?_
      refine Ops.q (q_len esz_92 rfl) ?_
      by_cases hxl : 0 < (xs.length : Int)
      · refine Ops.q (q_cmp rfl rfl (c_gt hxl)) ?_
        refine Ops.to rfl ?_
        refine Cd.cond_t rfl ?_
        have hsn : i * n ≤ 8 * 4 := Nat.mul_le_mul (by omega) (by omega)
        have hmod : (i * n + c) % xs.length < xs.length := Nat.mod_lt _ (by omega)
        obtain ⟨x3, hx4⟩ : ∃ x, xs[((i * n + c) % xs.length)]? = some x := ⟨_, List.getElem?_eq_getElem (by omega)⟩
        obtain ⟨ab5, ao6, rfl⟩ := RoL.pos hX eU8_len hx4
        have hxb := hb x3 (List.mem_iff_getElem?.2 ⟨_, hx4⟩)
        have hto : mdTo q n xs i c = x3 % (q : Int) := by unfold mdTo; rw [if_neg (by omega), getD_at hx4]
        refine Cd.region ?_
        refine Ops.q (q_mv rfl) ?_
        refine Ops.q (q_mv rfl) ?_
        refine Ops.q (q_mv rfl) ?_
        refine Ops.q (q_ar (v := ((i * n : Nat) : Int)) rfl rfl (a_mulN (by omega))) ?_
        refine Ops.q (q_mv rfl) ?_
        refine Ops.q (q_ar (v := ((i * n + c : Nat) : Int)) rfl rfl (a_addN (by omega))) ?_
        refine Ops.q (q_mv rfl) ?_
        refine Ops.q (q_len esz_92 rfl) ?_
        refine Ops.q (q_ar (v := ((((i * n + c) % xs.length : Nat)) : Int)) rfl rfl (a_remN (by omega))) ?_
        refine Ops.q (q_ix (k := ((i * n + c) % xs.length)) esz_92 rfl rfl (by omega)) ?_
        refine Ops.q (q_ldR isA_5 rfl (hX.at0 eU8_len hx4 rfl)) ?_
        refine Ops.q (q_conv iK_5 iK_3 rfl (IntWalk.i64_in _ (by omega))) ?_
        refine Ops.q (q_mv rfl) ?_
        refine Ops.q (q_ar rfl rfl (a_rem (by omega) (by omega))) ?_
        refine Ops.q (q_asg rfl) ?_
        refine Ops.to rfl ?_
        refine Cd.region ?_
        refine Ops.q (q_mv rfl) ?_
        refine Ops.q (q_mv rfl) ?_
        refine Ops.lit [.int .i64 (x3 % (q : Int))] el_26 zsb_3 rfl rfl ⟨by decide, by decide⟩ rfl ?_
        intro b7
        refine Ops.app (news := [.int .i64 (x3 % (q : Int))]) el_26 zsb_3 (by decide) rfl rfl (fun _ hs => hs.ownRo .here) (fun _ hs => (hs.pull .here).drop) (fun _ _ => .here) rfl (one rfl) (by omega) (by omega) ?_
        intro a8 c9
        refine Ops.q (q_asg rfl) ?_
        refine Ops.to rfl ?_
        refine Cd.region ?_
        refine Ops.q (q_ar rfl rfl (a_inc (by omega))) ?_
        refine Ops.q (q_mv rfl) ?_
        refine Ops.rnd ((c + 1, a8, c9)) rfl (by dsimp only; exact (by omega)) (by dsimp only; omega) ⟨rfl, rfl, rfl, rfl, rfl, rfl, rfl, rfl, rfl, rfl, rfl, rfl, trivial⟩ (fun _ hs => by have h1 := ((((((hs.pull (.there (.there (.there (.there (.there .here)))))).pull (.there (.there (.there (.there (.there .here)))))).pull (.there (.there (.there (.there (.there .here)))))).pull (.there (.there (.there (.there (.there .here)))))).pull (.there (.there (.there (.there (.there .here)))))).pull (.there (.there (.there (.there (.there .here)))))); (try dsimp only); rw [mdRow_succ, fm_app, hto]; exact h1) 
      · refine Ops.q (q_cmp rfl rfl (c_ngt (by omega))) ?_
        have hto : mdTo q n xs i c = 0 := by unfold mdTo; rw [if_pos (by omega)]
        refine Ops.to rfl ?_
        refine Cd.cond_f rfl ?_
        refine Cd.skipTo rfl ?_
        refine Cd.region ?_
        refine Ops.q (q_mv rfl) ?_
        refine Ops.q (q_mv rfl) ?_
        refine Ops.lit [.int .i64 0] el_26 zsb_3 rfl rfl ⟨by decide, by decide⟩ rfl ?_
        intro b10
        refine Ops.app (news := [.int .i64 0]) el_26 zsb_3 (by decide) rfl rfl (fun _ hs => hs.ownRo .here) (fun _ hs => (hs.pull .here).drop) (fun _ _ => .here) rfl (one rfl) (by omega) (by omega) ?_
        intro a11 c12
        refine Ops.q (q_asg rfl) ?_
        refine Ops.to rfl ?_
        refine Cd.region ?_
        refine Ops.q (q_ar rfl rfl (a_inc (by omega))) ?_
        refine Ops.q (q_mv rfl) ?_
        refine Ops.rnd ((c + 1, a11, c12)) rfl (by dsimp only; exact (by omega)) (by dsimp only; omega) ⟨rfl, rfl, rfl, rfl, rfl, rfl, rfl, rfl, rfl, rfl, rfl, rfl, trivial⟩ (fun _ hs => by have h1 := ((((((hs.pull (.there (.there (.there (.there (.there .here)))))).pull (.there (.there (.there (.there (.there .here)))))).pull (.there (.there (.there (.there (.there .here)))))).pull (.there (.there (.there (.there (.there .here)))))).pull (.there (.there (.there (.there (.there .here)))))).pull (.there (.there (.there (.there (.there .here)))))); (try dsimp only); rw [mdRow_succ, fm_app, hto]; exact h1) 
    · refine Ops.q (q_cmp rfl rfl (c_nlt (by omega))) ?_
      have hc9 : c = n := by omega
      rw [hc9]
      refine Ops.to rfl ?_
      refine Cd.seq ?_
      refine Cd.cond_f rfl ?_
      refine Cd.exitTo rfl ?_
      refine Cd.seq ?_
      refine Cd.region ?_
      refine Ops.q (q_fa fo_36_0 rfl) ?_
      refine Ops.q (q_ldB isA_22 rfl (.there .here) rfl) ?_
      refine Ops.q (q_mv rfl) ?_
      refine Ops.lit [.slice ra n rc] el_22 zsb_26 rfl rfl ⟨by decide, by decide⟩ rfl ?_
      intro b13
      refine Ops.app (news := [.slice ra n rc]) el_22 zsb_26 (by decide) rfl rfl (fun _ hs => hs.ownRo .here) (fun _ hs => (hs.pull .here).drop) (fun _ _ => (.there (.there .here))) rfl (one rfl) (by omega) (by omega) ?_
      intro a14 c15
      refine Ops.q (q_fa fo_36_0 rfl) ?_
      refine Ops.stB [.slice a14 (lz.length + 1) c15] [.slice a14 (lz.length + 1) c15, .int .i64 (s0 : Int), .slice aa i ac] sz_22 rfl rfl rfl (one rfl) (.there .here) rfl rfl ?_
      refine Ops.to rfl ?_
      refine Cd.draw rfl (by kernel_rfl) (.cons (.there .here) .nil) ?_
      intro F16 St17 hP18 hF19 hR20
      refine Dr.q (i := 0) hP18 rfl (by kernel_rfl) (q_fa fo_36_2 rfl) ?_
      refine Dr.q (i := 1) hP18 rfl (by kernel_rfl) (q_ldB isA_23 rfl .here rfl) ?_
      refine Dr.q (i := 2) hP18 rfl (by kernel_rfl) (q_mv rfl) ?_
      refine Dr.q (i := 3) hP18 rfl (by kernel_rfl) (q_mv rfl) ?_
      refine Dr.q (i := 4) hP18 rfl (by kernel_rfl) (q_shr (v := shA ab i) (j := i) rfl rfl rfl) ?_
      refine Dr.q (i := 5) hP18 rfl (by kernel_rfl) (q_and (v := anA ab i) rfl rfl rfl) ?_
      refine Dr.q (i := 6) hP18 rfl (by kernel_rfl) (q_cmp rfl rfl rfl) ?_
      refine Dr.e (i := 7) rfl (by kernel_rfl) ?_
      refine Ops.lit [.bool (anA ab i == 1)] el_23 zsb_4 rfl rfl ⟨by decide, by decide⟩ rfl ?_
      intro b21
      refine Dr.back (fun _ hs => hF19 (.there .here) hs) ?_
      refine Dr.e (i := 8) rfl (by kernel_rfl) ?_
      refine Ops.app (news := [.bool (anA ab i == 1)]) el_23 zsb_4 (by decide) rfl rfl (fun _ hs => hs.ownRo .here) (fun _ hs => (hs.pull .here).drop) (fun _ _ => (.there (.there (.there (.there .here))))) rfl (one rfl) (by omega) (by omega) ?_
      intro a22 c23
      refine Dr.back (fun _ hs => hF19 .here hs) ?_
      refine Dr.tail 9 (by kernel_rfl) ?_
      refine Ops.sat ?_ (fun _ hs => hR20 .here hs)
      refine Ops.q (q_fa fo_36_2 rfl) ?_
      refine Ops.stB [.slice a22 (i + 1) c23] [.slice a14 (lz.length + 1) c15, .int .i64 (s0 : Int), .slice a22 (i + 1) c23] sz_23 rfl rfl rfl (one rfl) .here rfl rfl ?_
      refine Ops.to rfl ?_
      refine Cd.region ?_
      refine Ops.q (q_ar rfl rfl (a_inc (by omega))) ?_
      refine Ops.q (q_mv rfl) ?_
      refine Ops.rnd ((i + 1, lz ++ [((ra, rc), (mdRow q n xs i n))], a14, c15, a22, c23)) rfl (by dsimp only; exact (⟨by omega, by rw [List.map_append, hI0.2, mdNx_succ]; rfl⟩)) (by dsimp only; omega) ⟨rfl, rfl, rfl, rfl, rfl, rfl, rfl, rfl, trivial⟩ (fun _ hs => by have h1 := ((((((hs.pull (.there (.there (.there (.there (.there .here)))))).pull (.there (.there (.there (.there (.there .here)))))).pull (.there (.there (.there (.there .here))))).pull (.there (.there (.there .here)))).pull (.there (.there (.there (.there .here))))).pull (.there (.there (.there (.there (.there .here)))))); have h2 := rdGrow h1 (fun w p q => nlR_grow (c := rc) w p q); (try dsimp only); rw [fm_app, show [((ra, rc), (mdRow q n xs i n))].flatMap eNL = [.slice ra n rc] from by simp [eNL, mdRow_len], List.length_append, accL_succ, fm_app]; exact (h2.pull (.there (.there .here))).pull (.there (.there .here))) 
  · refine Ops.q (q_cmp rfl rfl (c_nlt (by omega))) ?_
    refine Ops.to rfl ?_
    refine Cd.seq ?_
    refine Cd.cond_f rfl ?_
    refine Cd.exitTo rfl ?_
    refine Cd.seq ?_
    refine Cd.region ?_
    refine Ops.q (q_ldBN [.slice na lz.length nc, .int .i64 (s0 : Int), .slice aa i ac] isA_36 sz_36 rfl .here rfl) ?_
    refine Ops.stB [.slice na lz.length nc, .int .i64 (s0 : Int), .slice aa i ac] [.slice na lz.length nc, .int .i64 (s0 : Int), .slice aa i ac] sz_36 rfl rfl rfl (one rfl) (.there (.there (.there (.there .here)))) rfl rfl ?_
    refine Ops.to rfl ?_
    refine Cd.rt (fn := Try.f40) [.agg [.slice na lz.length nc, .int .i64 (s0 : Int), .slice aa i ac].toArray] (by with_reducible repeat (first | exact rq_here | apply rq_then | apply rq_block)) rfl ⟨⟨_, _, rfl, fun _ hs => run_loadN isA_36 sz_36 (fun o u hu => Sat.atB (.there (.there (.there (.there .here)))) (by rw [Nat.zero_add]; exact hu) hs)⟩, trivial⟩ ?_
    intro w' hs'
    have hs9 : i = q := by omega
    have h1 := (((((hs'.pull (.there (.there (.there .here)))).pull (.there (.there .here))).pull (.there (.there (.there .here)))).pull (.there (.there (.there .here)))).drop.pull (.there (.there (.there .here)))).drop
    have h2 := rdGrow h1 (φ' := fun w => RoLL w na lz) (fun w p q => ⟨q, p⟩)
    have h3 := rdGrow h2 (φ' := fun w => RoLL w na lz ∧ RoL w aa eBool (accL ab i)) (fun w p q => ⟨p, q⟩)
    rw [hs9] at h3
    have hz9 := hI.2
    rw [hs9] at hz9 hlz
    exact ⟨⟨((na, nc), lz, (aa, ac)), hz9⟩, by rw [hlz, hs9]; rfl, h3⟩
end Go.Proofs.Ytilcdghliigngaa
namespace Go.Proofs.Ytilcdghliigngaa
open Go.RowKit Go.Proofs.YtilcdghliigngaaGl Go.Proofs.YtilcdghliigngaaPm
set_option linter.unusedVariables false
set_option linter.unusedSimpArgs false
end Go.Proofs.Ytilcdghliigngaa
namespace Go.Proofs.Ytilcdghliigngaa
open Go.RowKit Go.Proofs.YtilcdghliigngaaGl Go.Proofs.YtilcdghliigngaaPm
set_option linter.unusedVariables false
set_option linter.unusedSimpArgs false
theorem a_remU {i j : Int} (hi : 0 ≤ i) (hj : 0 < j) : arV .rem .u64 i j = some (i % j) := by simp only [arV, if_neg (show j ≠ 0 by omega), Int.tmod_eq_emod_of_nonneg hi]
def fillL (v j : Nat) : List Int := List.replicate j (-1) ++ List.replicate (v - j) 0
end Go.Proofs.Ytilcdghliigngaa
namespace Go.Proofs.Ytilcdghliigngaa
open Go.RowKit Go.Proofs.YtilcdghliigngaaGl Go.Proofs.YtilcdghliigngaaPm
set_option linter.unusedVariables false
set_option linter.unusedSimpArgs false
end Go.Proofs.Ytilcdghliigngaa
namespace Go.Proofs.Ytilcdghliigngaa
open Go.RowKit Go.Proofs.YtilcdghliigngaaGl Go.Proofs.YtilcdghliigngaaPm
set_option linter.unusedVariables false
set_option linter.unusedSimpArgs false
abbrev GLs (α : Type) := (Option Addr × Nat) × List α
def eGL {α : Type} (l : GLs α) : List Value := [.slice l.1.1 l.2.length l.1.2]
theorem eGL_len {α : Type} (l : GLs α) : (eGL l).length = 1 := rfl
def RoGL {α : Type} (w : World) (a : Option Addr) (enc : α → List Value) (ls : List (GLs α)) : Prop := RoL w a eGL ls ∧ ∀ l ∈ ls, RoL w l.1.1 enc l.2
abbrev catG {α : Type} (ls : List (GLs α)) : List α := ls.flatMap (·.2)
theorem catG_app {α : Type} {ls : List (GLs α)} {k : Nat} {x : GLs α} (hx : ls[k]? = some x) : catG (ls.take (k + 1)) = catG (ls.take k) ++ x.2 := by
  rw [catG, List.take_add_one, hx, List.flatMap_append]; simp
theorem catG_le {α : Type} {ls : List (GLs α)} {k : Nat} : (catG (ls.take k)).length ≤ (catG ls).length := by
  have : catG ls = catG (ls.take k) ++ catG (ls.drop k) := by rw [catG, ← List.flatMap_append, List.take_append_drop]
  rw [this, List.length_append]; omega
theorem growNilP_c (n : Nat) (w : World) (hn : 1 ≤ n ∧ n ≤ 1000000) : Calls Try.prog 104 [.slice none 0 0, .int .i64 (n : Int)].toArray w fun e w' => ∃ p : Option Addr × Nat, e = .returned (.slice p.1 0 p.2) ∧ Sat w w' [row p.1 p.2 116 8 0 []] := by
  refine fstart Try.func104 rfl rfl (Sat.nil w) ?_
  refine Cd.seq ?_
  refine Cd.region ?_
  refine Ops.q (q_asg rfl) ?_
  refine Ops.to rfl ?_
  refine Cd.seq ?_
  refine Cd.seq ?_
  refine Cd.region ?_
  refine Ops.q (q_mv rfl) ?_
  refine Ops.q (q_cmp rfl rfl (c_nlt (by omega))) ?_
  refine Ops.to rfl ?_
  refine Cd.cond_f rfl ?_
  refine Cd.skipTo rfl ?_
  refine Cd.seq ?_
  refine Cd.seq ?_
  refine Cd.region ?_
  refine Ops.q (q_mv rfl) ?_
  refine Ops.q (q_mv rfl) ?_
  refine Ops.q (q_cap el_29 rfl) ?_
  refine Ops.q (q_mv rfl) ?_
  refine Ops.q (q_len esz_29 rfl) ?_
  refine Ops.q (q_ar (v := 0) rfl rfl (a_sub (by decide))) ?_
  refine Ops.q (q_ar (v := (n : Int)) rfl rfl (by rw [a_sub (by omega), Int.sub_zero])) ?_
  refine Ops.q (q_asg rfl) ?_
  refine Ops.to rfl ?_
  refine Cd.seq ?_
  refine Cd.region ?_
  refine Ops.q (q_mv rfl) ?_
  refine Ops.q (q_cmp rfl rfl (c_gt (by omega))) ?_
  refine Ops.to rfl ?_
  refine Cd.cond_t rfl ?_
  refine Cd.region ?_
  refine Ops.q (q_mv rfl) ?_
  refine Ops.q (q_mv rfl) ?_
  refine Ops.q (q_cap el_29 rfl) ?_
  refine Ops.q (q_cutN el_29 sz_116 rfl rfl) ?_
  refine Ops.q (q_mv rfl) ?_
  refine Ops.appz (m := n) el_29 iK_3 zsb_116 (by decide) rfl rfl (by omega) (by omega) (by omega) ?_
  intro zb zc hzc
  refine Ops.q (q_mv rfl) ?_
  refine Ops.q (q_len esz_29 rfl) ?_
  refine Ops.q (q_cutHP (k := 0) el_29 sz_116 rfl rfl (by omega)) ?_
  refine Ops.q (q_asg rfl) ?_
  refine Ops.to rfl ?_
  refine Cd.seq ?_
  refine Cd.region ?_
  refine Ops.q (q_mv rfl) ?_
  refine Ops.q (q_asg rfl) ?_
  refine Ops.to rfl ?_
  refine Cd.rt (fn := Try.f104) [.slice (some ⟨zb, 0, none⟩) 0 zc] (by with_reducible repeat (first | exact rq_here | apply rq_then | apply rq_block)) rfl ⟨rfl, trivial⟩ ?_
  intro w' hs'
  exact ⟨(some ⟨zb, 0, none⟩, zc), rfl, hs'⟩
theorem concatP_c (nb no nc : Nat) (ls : List (GLs Prm)) (w : World) (hL : RoGL w (some ⟨nb, no, none⟩) ePrm ls) (hll : ls.length ≤ 1000) (hc : 1 ≤ (catG ls).length ∧ (catG ls).length ≤ 1000000) : Calls Try.prog 81 [.slice (some ⟨nb, no, none⟩) ls.length nc].toArray w fun e w' => ∃ p : Option Addr × Nat, e = .returned (.slice p.1 (catG ls).length p.2) ∧ Sat w w' [row p.1 p.2 116 8 (catG ls).length ((catG ls).flatMap ePrm)] := by
  refine fstart Try.func81 rfl rfl (Sat.nil w) ?_
  refine Cd.seq ?_
  refine Cd.region ?_
  refine Ops.q (q_asg rfl) ?_
  refine Ops.to rfl ?_
  refine Cd.seq ?_
  refine Cd.region ?_
  refine Ops.q (q_asg rfl) ?_
  refine Ops.to rfl ?_
  refine Cd.seq ?_
  refine Cd.seq ?_
  refine Cd.region ?_
  refine Ops.q (q_mv rfl) ?_
  refine Ops.q (q_len esz_192 rfl) ?_
  refine Ops.q (q_mv rfl) ?_
  refine Ops.to rfl ?_
  refine Cd.block ?_
  refine Cd.lp (σ := Nat) (fun k => k ≤ ls.length) (fun k => [(0, .slice (some ⟨nb, no, none⟩) ls.length nc), (3, .int .i64 ((catG (ls.take k)).length : Int)), (9, .slice (some ⟨nb, no, none⟩) ls.length nc), (10, .int .i64 (ls.length : Int)), (11, .int .i64 (k : Int))]) (fun k => []) (fun k => ls.length - k) 0 (Nat.zero_le _) ⟨rfl, rfl, rfl, rfl, rfl, trivial⟩ (fun _ hs => hs) ?_
  intro k hI
  refine Cd.seq ?_
  refine Cd.region ?_
  by_cases hk1 : (k : Int) < (ls.length : Int)
  · refine Ops.q (q_cmp rfl rfl (c_lt hk1)) ?_
    obtain ⟨x1, hx2⟩ : ∃ x, ls[k]? = some x := ⟨_, List.getElem?_eq_getElem (by omega)⟩
    have hcl := catG_le (ls := ls) (k := k + 1)
    rw [catG_app hx2, List.length_append] at hcl
    have hxe := hL.2 x1 (List.mem_iff_getElem?.2 ⟨k, hx2⟩)
    refine Ops.to rfl ?_
    refine Cd.seq ?_
    refine Cd.cond_t rfl ?_
    refine Cd.skipTo rfl ?_
    refine Cd.seq ?_
    refine Cd.block ?_
    refine Cd.seq ?_
    refine Cd.region ?_
    refine Ops.q (q_ix (k := k) esz_192 rfl rfl (by omega)) ?_
    refine Ops.q (q_ldR isA_29 rfl (hL.1.at0 eGL_len hx2 rfl)) ?_
    refine Ops.q (q_asg rfl) ?_
    refine Ops.to rfl ?_
    refine Cd.seq ?_
    refine Cd.region ?_
    refine Ops.q (q_mv rfl) ?_
    refine Ops.q (q_mv rfl) ?_
    refine Ops.q (q_len esz_29 rfl) ?_
    refine Ops.q (q_ar rfl rfl (a_add (by omega))) ?_
    refine Ops.q (q_asg rfl) ?_
    refine Ops.to rfl ?_
    refine Cd.seq ?_
    refine Cd.region ?_
    refine Ops.q (q_mv rfl) ?_
    refine Ops.q (q_cmp rfl rfl (c_nlt (by omega))) ?_
    refine Ops.to rfl ?_
    refine Cd.cond_f rfl ?_
    refine Cd.skipTo rfl ?_
    refine Cd.region ?_
    refine Ops.q (q_ar rfl rfl (a_inc (by omega))) ?_
    refine Ops.q (q_mv rfl) ?_
    refine Ops.rnd (k + 1) rfl (by omega) (by omega) ⟨rfl, (by (try dsimp only); rw [catG_app hx2, List.length_append]; rfl), rfl, rfl, rfl, trivial⟩ (fun _ hs => hs) 
  · refine Ops.q (q_cmp rfl rfl (c_nlt (by omega))) ?_
    have hk1 : ls.take k = ls := List.take_of_length_le (by omega)
    rw [hk1]
    refine Ops.to rfl ?_
    refine Cd.seq ?_
    refine Cd.cond_f rfl ?_
    refine Cd.exitTo rfl ?_
    refine Cd.seq ?_
    refine Cd.region ?_
    refine Ops.q (q_mv rfl) ?_
    refine Ops.cl (α := Option Addr × Nat) (v := fun p => .slice p.1 0 p.2) (B := fun p => [row p.1 p.2 116 8 0 []]) en_104 rfl (fun w hs => growNilP_c (catG ls).length w (by omega)) ?_
    rintro ⟨ga, gc⟩
    refine Ops.q (q_asg rfl) ?_
    refine Ops.to rfl ?_
    refine Cd.seq ?_
    refine Cd.seq ?_
    refine Cd.region ?_
    refine Ops.q (q_mv rfl) ?_
    refine Ops.q (q_len esz_192 rfl) ?_
    refine Ops.q (q_mv rfl) ?_
    refine Ops.to rfl ?_
    refine Cd.block ?_
    refine Cd.lp (σ := Nat × Option Addr × Nat) (fun s => s.1 ≤ ls.length) (fun s => [(25, .slice (some ⟨nb, no, none⟩) ls.length nc), (26, .int .i64 (ls.length : Int)), (27, .int .i64 (s.1 : Int)), (6, .slice s.2.1 ((catG (ls.take s.1)).length) s.2.2)]) (fun s => [row s.2.1 s.2.2 116 8 ((catG (ls.take s.1)).length) ((catG (ls.take s.1)).flatMap ePrm)]) (fun s => ls.length - s.1) (0, ga, gc) (Nat.zero_le _) ⟨rfl, rfl, rfl, rfl, trivial⟩ (fun _ hs => hs) ?_
    rintro ⟨k, pa, pc⟩ hI
    dsimp only at hI
    change Cd _ _ _ _ _ _ _ [(25, .slice (some ⟨nb, no, none⟩) ls.length nc), (26, .int .i64 (ls.length : Int)), (27, .int .i64 (k : Int)), (6, .slice pa ((catG (ls.take k)).length) pc)] ([row pa pc 116 8 ((catG (ls.take k)).length) ((catG (ls.take k)).flatMap ePrm)])
    refine Cd.seq ?_
    refine Cd.region ?_
    by_cases hk2 : (k : Int) < (ls.length : Int)
    · refine Ops.q (q_cmp rfl rfl (c_lt hk2)) ?_
      obtain ⟨x3, hx4⟩ : ∃ x, ls[k]? = some x := ⟨_, List.getElem?_eq_getElem (by omega)⟩
      have hcl := catG_le (ls := ls) (k := k + 1)
      rw [catG_app hx4, List.length_append] at hcl
      have hxe := hL.2 x3 (List.mem_iff_getElem?.2 ⟨k, hx4⟩)
      refine Ops.to rfl ?_
      refine Cd.seq ?_
      refine Cd.cond_t rfl ?_
      refine Cd.skipTo rfl ?_
      refine Cd.seq ?_
      refine Cd.block ?_
      refine Cd.seq ?_
      refine Cd.region ?_
      refine Ops.q (q_ix (k := k) esz_192 rfl rfl (by omega)) ?_
      refine Ops.q (q_ldR isA_29 rfl (hL.1.at0 eGL_len hx4 rfl)) ?_
      refine Ops.q (q_asg rfl) ?_
      refine Ops.to rfl ?_
      refine Cd.region ?_
      refine Ops.q (q_mv rfl) ?_
      refine Ops.q (q_mv rfl) ?_
      refine Ops.app (news := (x3.2.flatMap ePrm)) el_29 zsb_116 (by decide) rfl rfl (fun _ hs => RoL.later hxe hs.below) (fun _ hs => hs) (fun _ _ => .here) (fm_length ePrm_len _) (fm_one ePrm_one _) (by omega) (by omega) ?_
      intro qa qc
      refine Ops.q (q_asg rfl) ?_
      refine Ops.to rfl ?_
      refine Cd.region ?_
      refine Ops.q (q_ar rfl rfl (a_inc (by omega))) ?_
      refine Ops.q (q_mv rfl) ?_
      refine Ops.rnd ((k + 1, qa, qc)) rfl (by dsimp only; exact (by omega)) (by dsimp only; omega) ⟨rfl, rfl, rfl, (by (try dsimp only); rw [catG_app hx4, List.length_append]; rfl), trivial⟩ (fun _ hs => by (try dsimp only); rw [catG_app hx4, fm_app, List.length_append]; exact hs) 
    · refine Ops.q (q_cmp rfl rfl (c_nlt (by omega))) ?_
      refine Ops.to rfl ?_
      refine Cd.seq ?_
      refine Cd.cond_f rfl ?_
      refine Cd.exitTo rfl ?_
      refine Cd.seq ?_
      refine Cd.region ?_
      refine Ops.q (q_mv rfl) ?_
      refine Ops.q (q_asg rfl) ?_
      refine Ops.to rfl ?_
      refine Cd.rt (fn := Try.f81) [.slice pa ((catG (ls.take k)).length) pc] (by with_reducible repeat (first | exact rq_here | apply rq_then | apply rq_block)) rfl ⟨rfl, trivial⟩ ?_
      intro w' hs'
      rw [List.take_of_length_le (show ls.length ≤ k by omega)] at hs'
      exact ⟨(pa, pc), by rw [List.take_of_length_le (show ls.length ≤ k by omega)]; rfl, hs'⟩
theorem growNilS_c (n : Nat) (w : World) (hn : 1 ≤ n ∧ n ≤ 1000000) : Calls Try.prog 105 [.slice none 0 0, .int .i64 (n : Int)].toArray w fun e w' => ∃ p : Option Addr × Nat, e = .returned (.slice p.1 0 p.2) ∧ Sat w w' [row p.1 p.2 126 4 0 []] := by
  refine fstart Try.func105 rfl rfl (Sat.nil w) ?_
  refine Cd.seq ?_
  refine Cd.region ?_
  refine Ops.q (q_asg rfl) ?_
  refine Ops.to rfl ?_
  refine Cd.seq ?_
  refine Cd.seq ?_
  refine Cd.region ?_
  refine Ops.q (q_mv rfl) ?_
  refine Ops.q (q_cmp rfl rfl (c_nlt (by omega))) ?_
  refine Ops.to rfl ?_
  refine Cd.cond_f rfl ?_
  refine Cd.skipTo rfl ?_
  refine Cd.seq ?_
  refine Cd.seq ?_
  refine Cd.region ?_
  refine Ops.q (q_mv rfl) ?_
  refine Ops.q (q_mv rfl) ?_
  refine Ops.q (q_cap el_30 rfl) ?_
  refine Ops.q (q_mv rfl) ?_
  refine Ops.q (q_len esz_30 rfl) ?_
  refine Ops.q (q_ar (v := 0) rfl rfl (a_sub (by decide))) ?_
  refine Ops.q (q_ar (v := (n : Int)) rfl rfl (by rw [a_sub (by omega), Int.sub_zero])) ?_
  refine Ops.q (q_asg rfl) ?_
  refine Ops.to rfl ?_
  refine Cd.seq ?_
  refine Cd.region ?_
  refine Ops.q (q_mv rfl) ?_
  refine Ops.q (q_cmp rfl rfl (c_gt (by omega))) ?_
  refine Ops.to rfl ?_
  refine Cd.cond_t rfl ?_
  refine Cd.region ?_
  refine Ops.q (q_mv rfl) ?_
  refine Ops.q (q_mv rfl) ?_
  refine Ops.q (q_cap el_30 rfl) ?_
  refine Ops.q (q_cutN el_30 sz_126 rfl rfl) ?_
  refine Ops.q (q_mv rfl) ?_
  refine Ops.appz (m := n) el_30 iK_3 zsb_126 (by decide) rfl rfl (by omega) (by omega) (by omega) ?_
  intro zb zc hzc
  refine Ops.q (q_mv rfl) ?_
  refine Ops.q (q_len esz_30 rfl) ?_
  refine Ops.q (q_cutHP (k := 0) el_30 sz_126 rfl rfl (by omega)) ?_
  refine Ops.q (q_asg rfl) ?_
  refine Ops.to rfl ?_
  refine Cd.seq ?_
  refine Cd.region ?_
  refine Ops.q (q_mv rfl) ?_
  refine Ops.q (q_asg rfl) ?_
  refine Ops.to rfl ?_
  refine Cd.rt (fn := Try.f105) [.slice (some ⟨zb, 0, none⟩) 0 zc] (by with_reducible repeat (first | exact rq_here | apply rq_then | apply rq_block)) rfl ⟨rfl, trivial⟩ ?_
  intro w' hs'
  exact ⟨(some ⟨zb, 0, none⟩, zc), rfl, hs'⟩
theorem concatS_c (nb no nc : Nat) (ls : List (GLs Syn)) (w : World) (hL : RoGL w (some ⟨nb, no, none⟩) eSyn ls) (hll : ls.length ≤ 1000) (hc : 1 ≤ (catG ls).length ∧ (catG ls).length ≤ 1000000) : Calls Try.prog 82 [.slice (some ⟨nb, no, none⟩) ls.length nc].toArray w fun e w' => ∃ p : Option Addr × Nat, e = .returned (.slice p.1 (catG ls).length p.2) ∧ Sat w w' [row p.1 p.2 126 4 (catG ls).length ((catG ls).flatMap eSyn)] := by
  refine fstart Try.func82 rfl rfl (Sat.nil w) ?_
  refine Cd.seq ?_
  refine Cd.region ?_
  refine Ops.q (q_asg rfl) ?_
  refine Ops.to rfl ?_
  refine Cd.seq ?_
  refine Cd.region ?_
  refine Ops.q (q_asg rfl) ?_
  refine Ops.to rfl ?_
  refine Cd.seq ?_
  refine Cd.seq ?_
  refine Cd.region ?_
  refine Ops.q (q_mv rfl) ?_
  refine Ops.q (q_len esz_194 rfl) ?_
  refine Ops.q (q_mv rfl) ?_
  refine Ops.to rfl ?_
  refine Cd.block ?_
  refine Cd.lp (σ := Nat) (fun k => k ≤ ls.length) (fun k => [(0, .slice (some ⟨nb, no, none⟩) ls.length nc), (3, .int .i64 ((catG (ls.take k)).length : Int)), (9, .slice (some ⟨nb, no, none⟩) ls.length nc), (10, .int .i64 (ls.length : Int)), (11, .int .i64 (k : Int))]) (fun k => []) (fun k => ls.length - k) 0 (Nat.zero_le _) ⟨rfl, rfl, rfl, rfl, rfl, trivial⟩ (fun _ hs => hs) ?_
  intro k hI
  refine Cd.seq ?_
  refine Cd.region ?_
  by_cases hk1 : (k : Int) < (ls.length : Int)
  · refine Ops.q (q_cmp rfl rfl (c_lt hk1)) ?_
    obtain ⟨x1, hx2⟩ : ∃ x, ls[k]? = some x := ⟨_, List.getElem?_eq_getElem (by omega)⟩
    have hcl := catG_le (ls := ls) (k := k + 1)
    rw [catG_app hx2, List.length_append] at hcl
    have hxe := hL.2 x1 (List.mem_iff_getElem?.2 ⟨k, hx2⟩)
    refine Ops.to rfl ?_
    refine Cd.seq ?_
    refine Cd.cond_t rfl ?_
    refine Cd.skipTo rfl ?_
    refine Cd.seq ?_
    refine Cd.block ?_
    refine Cd.seq ?_
    refine Cd.region ?_
    refine Ops.q (q_ix (k := k) esz_194 rfl rfl (by omega)) ?_
    refine Ops.q (q_ldR isA_30 rfl (hL.1.at0 eGL_len hx2 rfl)) ?_
    refine Ops.q (q_asg rfl) ?_
    refine Ops.to rfl ?_
    refine Cd.seq ?_
    refine Cd.region ?_
    refine Ops.q (q_mv rfl) ?_
    refine Ops.q (q_mv rfl) ?_
    refine Ops.q (q_len esz_30 rfl) ?_
    refine Ops.q (q_ar rfl rfl (a_add (by omega))) ?_
    refine Ops.q (q_asg rfl) ?_
    refine Ops.to rfl ?_
    refine Cd.seq ?_
    refine Cd.region ?_
    refine Ops.q (q_mv rfl) ?_
    refine Ops.q (q_cmp rfl rfl (c_nlt (by omega))) ?_
    refine Ops.to rfl ?_
    refine Cd.cond_f rfl ?_
    refine Cd.skipTo rfl ?_
    refine Cd.region ?_
    refine Ops.q (q_ar rfl rfl (a_inc (by omega))) ?_
    refine Ops.q (q_mv rfl) ?_
    refine Ops.rnd (k + 1) rfl (by omega) (by omega) ⟨rfl, (by (try dsimp only); rw [catG_app hx2, List.length_append]; rfl), rfl, rfl, rfl, trivial⟩ (fun _ hs => hs) 
  · refine Ops.q (q_cmp rfl rfl (c_nlt (by omega))) ?_
    have hk1 : ls.take k = ls := List.take_of_length_le (by omega)
    rw [hk1]
    refine Ops.to rfl ?_
    refine Cd.seq ?_
    refine Cd.cond_f rfl ?_
    refine Cd.exitTo rfl ?_
    refine Cd.seq ?_
    refine Cd.region ?_
    refine Ops.q (q_mv rfl) ?_
    refine Ops.cl (α := Option Addr × Nat) (v := fun p => .slice p.1 0 p.2) (B := fun p => [row p.1 p.2 126 4 0 []]) en_105 rfl (fun w hs => growNilS_c (catG ls).length w (by omega)) ?_
    rintro ⟨ga, gc⟩
    refine Ops.q (q_asg rfl) ?_
    refine Ops.to rfl ?_
    refine Cd.seq ?_
    refine Cd.seq ?_
    refine Cd.region ?_
    refine Ops.q (q_mv rfl) ?_
    refine Ops.q (q_len esz_194 rfl) ?_
    refine Ops.q (q_mv rfl) ?_
    refine Ops.to rfl ?_
    refine Cd.block ?_
    refine Cd.lp (σ := Nat × Option Addr × Nat) (fun s => s.1 ≤ ls.length) (fun s => [(25, .slice (some ⟨nb, no, none⟩) ls.length nc), (26, .int .i64 (ls.length : Int)), (27, .int .i64 (s.1 : Int)), (6, .slice s.2.1 ((catG (ls.take s.1)).length) s.2.2)]) (fun s => [row s.2.1 s.2.2 126 4 ((catG (ls.take s.1)).length) ((catG (ls.take s.1)).flatMap eSyn)]) (fun s => ls.length - s.1) (0, ga, gc) (Nat.zero_le _) ⟨rfl, rfl, rfl, rfl, trivial⟩ (fun _ hs => hs) ?_
    rintro ⟨k, pa, pc⟩ hI
    dsimp only at hI
    change Cd _ _ _ _ _ _ _ [(25, .slice (some ⟨nb, no, none⟩) ls.length nc), (26, .int .i64 (ls.length : Int)), (27, .int .i64 (k : Int)), (6, .slice pa ((catG (ls.take k)).length) pc)] ([row pa pc 126 4 ((catG (ls.take k)).length) ((catG (ls.take k)).flatMap eSyn)])
    refine Cd.seq ?_
    refine Cd.region ?_
    by_cases hk2 : (k : Int) < (ls.length : Int)
    · refine Ops.q (q_cmp rfl rfl (c_lt hk2)) ?_
      obtain ⟨x3, hx4⟩ : ∃ x, ls[k]? = some x := ⟨_, List.getElem?_eq_getElem (by omega)⟩
      have hcl := catG_le (ls := ls) (k := k + 1)
      rw [catG_app hx4, List.length_append] at hcl
      have hxe := hL.2 x3 (List.mem_iff_getElem?.2 ⟨k, hx4⟩)
      refine Ops.to rfl ?_
      refine Cd.seq ?_
      refine Cd.cond_t rfl ?_
      refine Cd.skipTo rfl ?_
      refine Cd.seq ?_
      refine Cd.block ?_
      refine Cd.seq ?_
      refine Cd.region ?_
      refine Ops.q (q_ix (k := k) esz_194 rfl rfl (by omega)) ?_
      refine Ops.q (q_ldR isA_30 rfl (hL.1.at0 eGL_len hx4 rfl)) ?_
      refine Ops.q (q_asg rfl) ?_
      refine Ops.to rfl ?_
      refine Cd.region ?_
      refine Ops.q (q_mv rfl) ?_
      refine Ops.q (q_mv rfl) ?_
      refine Ops.app (news := (x3.2.flatMap eSyn)) el_30 zsb_126 (by decide) rfl rfl (fun _ hs => RoL.later hxe hs.below) (fun _ hs => hs) (fun _ _ => .here) (fm_length eSyn_len _) (fm_one eSyn_one _) (by omega) (by omega) ?_
      intro qa qc
      refine Ops.q (q_asg rfl) ?_
      refine Ops.to rfl ?_
      refine Cd.region ?_
      refine Ops.q (q_ar rfl rfl (a_inc (by omega))) ?_
      refine Ops.q (q_mv rfl) ?_
      refine Ops.rnd ((k + 1, qa, qc)) rfl (by dsimp only; exact (by omega)) (by dsimp only; omega) ⟨rfl, rfl, rfl, (by (try dsimp only); rw [catG_app hx4, List.length_append]; rfl), trivial⟩ (fun _ hs => by (try dsimp only); rw [catG_app hx4, fm_app, List.length_append]; exact hs) 
    · refine Ops.q (q_cmp rfl rfl (c_nlt (by omega))) ?_
      refine Ops.to rfl ?_
      refine Cd.seq ?_
      refine Cd.cond_f rfl ?_
      refine Cd.exitTo rfl ?_
      refine Cd.seq ?_
      refine Cd.region ?_
      refine Ops.q (q_mv rfl) ?_
      refine Ops.q (q_asg rfl) ?_
      refine Ops.to rfl ?_
      refine Cd.rt (fn := Try.f82) [.slice pa ((catG (ls.take k)).length) pc] (by with_reducible repeat (first | exact rq_here | apply rq_then | apply rq_block)) rfl ⟨rfl, trivial⟩ ?_
      intro w' hs'
      rw [List.take_of_length_le (show ls.length ≤ k by omega)] at hs'
      exact ⟨(pa, pc), by rw [List.take_of_length_le (show ls.length ≤ k by omega)]; rfl, hs'⟩
end Go.Proofs.Ytilcdghliigngaa
namespace Go.Proofs.YtilcdghliigngaaGl
set_option linter.unusedVariables false
set_option linter.unusedSimpArgs false
open Go.RowKit
def eB3 (ops : Array Oper) (listed : Array Bool) (i j k : Nat) : Bool := Region.ready .any ops listed == [i, j, k]
section
variable {P : Program} {r : Option Nat} {ops : Array Oper} {Q : Exit → Act → World → Prop} {w0 : World} {n : Nat} {D : List Deferred} {rest : List Oper} {L : Env} {A : List Atom}
variable {St : World → Prop} {K : Act → World → Prop} {f : Nat} {listed : Array Bool}
theorem Dr.e3 {i j k : Nat} {o o' o2 : Oper} (hi : ops[i]? = some o) (hj : ops[j]? = some o') (hk2 : ops[k]? = some o2) (hB : eB3 ops listed i j k = true)
    (h : Ops P r ops (NQ (fun a w => St w ∧ (Region.noSelect ops = true → plainB ops = true → wpK P r ops St K f (listed.setIfInBounds i true) a w))) w0 n D [o] L A)
    (h' : Ops P r ops (NQ (fun a w => St w ∧ (Region.noSelect ops = true → plainB ops = true → wpK P r ops St K f (listed.setIfInBounds j true) a w))) w0 n D [o'] L A)
    (h2 : Ops P r ops (NQ (fun a w => St w ∧ (Region.noSelect ops = true → plainB ops = true → wpK P r ops St K f (listed.setIfInBounds k true) a w))) w0 n D [o2] L A) : Dr P r ops St K w0 n D (f + 1) listed L A := by
  intro a w hk hs hst hsel hpl
  simp only [eB3, beq_iff_eq] at hB
  refine .inl ⟨fun h => (by rw [hB] at h; cases h), fun q hq => ?_⟩
  rw [hB] at hq
  have key : ∀ (i : Nat) (o : Oper), ops[i]? = some o → Ops P r ops (NQ (fun a w => St w ∧ (Region.noSelect ops = true → plainB ops = true → wpK P r ops St K f (listed.setIfInBounds i true) a w))) w0 n D [o] L A →
      wpOpIn (Fw r) 0 P ops (fun _ _ _ => False) i (fun a w => St w ∧ wpK P r ops St K f (listed.setIfInBounds i true) a w) a w := by
    intro i o hi h
    have h1 := h a w hk hs
    have h2 : wpOpIn (Fw r) 0 P ops (NQ (fun a w => St w ∧ (Region.noSelect ops = true → plainB ops = true → wpK P r ops St K f (listed.setIfInBounds i true) a w))) i
        (fun a w => St w ∧ (Region.noSelect ops = true → plainB ops = true → wpK P r ops St K f (listed.setIfInBounds i true) a w)) a w := by
      unfold wpListIn at h1
      unfold wpOpIn
      simp only [hi]
      exact h1
    exact oper_Q (fun a w (h : St w ∧ (Region.noSelect ops = true → plainB ops = true → wpK P r ops St K f (listed.setIfInBounds i true) a w)) => ⟨h.1, h.2 hsel hpl⟩) h2
  rcases List.mem_cons.1 hq with rfl | hq
  · exact key _ _ hi h
  · rcases List.mem_cons.1 hq with rfl | hq
    · exact key _ _ hj h'
    · obtain rfl := List.mem_singleton.1 hq
      exact key _ _ hk2 h2
theorem Cd.cutE {β : Type} {x y : Code} (L' : β → Env) (A' : β → List Atom) (hx : Cd P r x (Exit.then (fun a w => ∃ b, Kn n D (L' b) a ∧ Sat w0 w (A' b)) Q) w0 n D L A) (hy : ∀ b, Cd P r y Q w0 n D (L' b) (A' b)) : Cd P r (.seq x y) Q w0 n D L A := by
  intro a w hk hs
  refine wpIn_seq (wpIn_mono (hx a w hk hs) ?_)
  intro e a' w' hq
  cases e with
  | normal => obtain ⟨b, h1, h2⟩ := hq; exact hy b a' w' h1 h2
  | exit id => exact hq
  | goto l => exact hq
  | ret => exact hq
  | panic ch => exact hq
  | outgrown => exact hq
theorem Ops.cutEndE {β : Type} {L' : β → Env} {A' : β → List Atom} (b : β) (hq : Q .normal = fun a w => ∃ b, Kn n D (L' b) a ∧ Sat w0 w (A' b)) (hL : Sub (L' b) L) (hA : ∀ w, Sat w0 w A → Sat w0 w (A' b)) : Ops P r ops Q w0 n D [] L A :=
  Ops.nil (fun _ w hk hs => by rw [hq]; exact ⟨b, hk.sub hL, hA w hs⟩)
end
end Go.Proofs.YtilcdghliigngaaGl
namespace Go.Proofs.Ytilcdghliigngaa
open Go.RowKit Go.Proofs.YtilcdghliigngaaGl Go.Proofs.YtilcdghliigngaaPm
set_option linter.unusedVariables false
set_option linter.unusedSimpArgs false
theorem concatP2 {b nc : Nat} {a1 a2 : Option Addr} {c1 c2 : Nat} {xs ys : List Prm} {w : World} (hR : Ro w (some ⟨b, 0, none⟩) [.slice a1 xs.length c1, .slice a2 ys.length c2]) (h1 : RoL w a1 ePrm xs) (h2 : RoL w a2 ePrm ys) (hc : 1 ≤ xs.length + ys.length ∧ xs.length + ys.length ≤ 1000000) :
    Calls Try.prog 81 [.slice (some ⟨b, 0, none⟩) 2 nc].toArray w fun e w' => ∃ p : Option Addr × Nat, e = .returned (.slice p.1 (xs ++ ys).length p.2) ∧ Sat w w' [row p.1 p.2 116 8 (xs ++ ys).length ((xs ++ ys).flatMap ePrm)] := by
  have e : catG [((a1, c1), xs), ((a2, c2), ys)] = xs ++ ys := by simp
  have := concatP_c b 0 nc [((a1, c1), xs), ((a2, c2), ys)] w ⟨hR, fun l hl => by
    rcases List.mem_cons.1 hl with rfl | hl
    · exact h1
    · obtain rfl := List.mem_singleton.1 hl; exact h2⟩ (by simp) (by rw [e, List.length_append]; exact hc)
  rw [e] at this; exact this
theorem concatS2 {b nc : Nat} {a1 a2 : Option Addr} {c1 c2 : Nat} {xs ys : List Syn} {w : World} (hR : Ro w (some ⟨b, 0, none⟩) [.slice a1 xs.length c1, .slice a2 ys.length c2]) (h1 : RoL w a1 eSyn xs) (h2 : RoL w a2 eSyn ys) (hc : 1 ≤ xs.length + ys.length ∧ xs.length + ys.length ≤ 1000000) :
    Calls Try.prog 82 [.slice (some ⟨b, 0, none⟩) 2 nc].toArray w fun e w' => ∃ p : Option Addr × Nat, e = .returned (.slice p.1 (xs ++ ys).length p.2) ∧ Sat w w' [row p.1 p.2 126 4 (xs ++ ys).length ((xs ++ ys).flatMap eSyn)] := by
  have e : catG [((a1, c1), xs), ((a2, c2), ys)] = xs ++ ys := by simp
  have := concatS_c b 0 nc [((a1, c1), xs), ((a2, c2), ys)] w ⟨hR, fun l hl => by
    rcases List.mem_cons.1 hl with rfl | hl
    · exact h1
    · obtain rfl := List.mem_singleton.1 hl; exact h2⟩ (by simp) (by rw [e, List.length_append]; exact hc)
  rw [e] at this; exact this
theorem set_take {L : List Value} {o : Nat} {v : Value} (h : o < L.length) : L.take o ++ [v] ++ L.drop (o + 1) = L.set o v := by
  rw [List.set_eq_take_append_cons_drop, if_pos h, List.append_assoc]; rfl
theorem fm_setc {α : Type} {enc : α → List Value} {sz j : Nat} (h : ∀ x, (enc x).length = sz) (hj : j < sz) {v : Value} : ∀ {xs : List α} {k : Nat} {x y : α}, xs[k]? = some x → enc y = (enc x).set j v → (xs.flatMap enc).set (k * sz + j) v = (xs.set k y).flatMap enc
  | [], k, x, y, hx, _ => by simp at hx
  | z :: xs, 0, x, y, hx, hy => by
    simp at hx; subst hx
    rw [List.flatMap_cons, List.set_cons_zero, List.flatMap_cons, List.set_append_left _ _ (by rw [h]; omega), hy]; simp
  | z :: xs, k + 1, x, y, hx, hy => by
    have ih := fm_setc h hj (xs := xs) (k := k) (by simpa using hx) hy
    rw [List.flatMap_cons, List.set_cons_succ, List.flatMap_cons, List.set_append_right _ _ (by rw [h, Nat.succ_mul]; omega), h, show (k + 1) * sz + j - sz = k * sz + j by rw [Nat.succ_mul]; omega, ih]
theorem fm_set1 {xs : List Syn} {k j : Nat} {x y : Syn} {v : Value} {o : Nat} (ho : o = k * 4 + j) (hj : j < 4) (hx : xs[k]? = some x) (hy : eSyn y = (eSyn x).set j v) : (xs.flatMap eSyn).take o ++ [v] ++ (xs.flatMap eSyn).drop (o + 1) = (xs.set k y).flatMap eSyn := by
  subst ho
  have hk := (List.getElem?_eq_some_iff.1 hx).1
  rw [set_take (by rw [fm_length eSyn_len]; have := Nat.mul_le_mul_right 4 hk; omega), fm_setc eSyn_len hj hx hy]
def shS (n : Nat) (ip : Int) (s : Syn) : Syn := ⟨if s.src < 0 then s.src - ip else s.src + (n : Int), s.dst + (n : Int), s.wt, s.dl⟩
def jS (n : Nat) (ip : Int) (ss1 ss2 : List Syn) (i : Nat) : List Syn := ss1 ++ ((ss2.take i).map (shS n ip) ++ ss2.drop i)
theorem jS_0 (n : Nat) (ip : Int) (ss1 ss2 : List Syn) : jS n ip ss1 ss2 0 = ss1 ++ ss2 := by unfold jS; simp
theorem jS_end {n : Nat} {ip : Int} {ss1 ss2 : List Syn} {i : Nat} (h : ss2.length ≤ i) : jS n ip ss1 ss2 i = ss1 ++ ss2.map (shS n ip) := by unfold jS; rw [List.take_of_length_le h, List.drop_of_length_le h]; simp
theorem jS_len {n : Nat} {ip : Int} {ss1 ss2 : List Syn} {i : Nat} (h : i ≤ ss2.length) : (jS n ip ss1 ss2 i).length = ss1.length + ss2.length := by unfold jS; simp; omega
theorem jS_get {n : Nat} {ip : Int} {ss1 ss2 : List Syn} {i : Nat} {x : Syn} (h : ss2[i]? = some x) : (jS n ip ss1 ss2 i)[ss1.length + i]? = some x := by
  have hi := (List.getElem?_eq_some_iff.1 h).1
  unfold jS
  rw [List.getElem?_append_right (by omega), List.getElem?_append_right (by simp; omega), List.getElem?_drop]
  have : i + (ss1.length + i - ss1.length - ((ss2.take i).map (shS n ip)).length) = i := by simp; omega
  rw [this, h]
theorem jS_step {n : Nat} {ip : Int} {ss1 ss2 : List Syn} {i : Nat} {x : Syn} (h : ss2[i]? = some x) : jS n ip ss1 ss2 (i + 1) = (jS n ip ss1 ss2 i).set (ss1.length + i) (shS n ip x) := by
  have hi := (List.getElem?_eq_some_iff.1 h).1
  have hd : ss2.drop i = x :: ss2.drop (i + 1) := by
    rw [List.drop_eq_getElem_cons hi]; congr 1
    exact (List.getElem?_eq_some_iff.1 h).2
  unfold jS
  rw [List.set_append_right _ _ (by omega), List.set_append_right _ _ (by simp; omega), List.take_add_one, h, List.map_append, List.append_assoc]
  have : ss1.length + i - ss1.length - ((ss2.take i).map (shS n ip)).length = 0 := by simp; omega
  rw [this, hd, List.set_cons_zero]; rfl
theorem netJoin_c {na1 na2 sa1 sa2 : Option Addr} {nc1 nc2 sc1 sc2 : Nat} {ns1 ns2 : List Prm} {ip1 ip2 : Int} {ss1 ss2 : List Syn} {w : World} (hN1 : RoL w na1 ePrm ns1) (hS1 : RoL w sa1 eSyn ss1) (hN2 : RoL w na2 ePrm ns2) (hS2 : RoL w sa2 eSyn ss2) (hc1 : netCheck ⟨ns1, ip1, ss1⟩ = 0) (hc2 : netCheck ⟨ns2, ip2, ss2⟩ = 0) (hcj : netCheck ⟨ns1 ++ ns2, ip1 + ip2, ss1 ++ ss2.map (shS ns1.length ip1)⟩ = 0) (hl : 1 ≤ ns1.length ∧ ns1.length ≤ 10000 ∧ ns2.length ≤ 10000 ∧ 1 ≤ ss1.length ∧ ss1.length ≤ 10000 ∧ ss2.length ≤ 10000 ∧ 0 ≤ ip1 ∧ ip1 ≤ 10000 ∧ 0 ≤ ip2 ∧ ip2 ≤ 10000) (hb2 : ∀ s ∈ ss2, -10000 ≤ s.src ∧ s.src ≤ 10000 ∧ 0 ≤ s.dst ∧ s.dst ≤ 10000) : Calls Try.prog 45 [.agg [.slice na1 ns1.length nc1, .int .i64 ip1, .slice sa1 ss1.length sc1].toArray, .agg [.slice na2 ns2.length nc2, .int .i64 ip2, .slice sa2 ss2.length sc2].toArray].toArray w fun e w' => ∃ x : (Option Addr × Nat) × (Option Addr × Nat), e = .returned (.tuple #[.agg #[.slice x.1.1 (ns1 ++ ns2).length x.1.2, .int .i64 (ip1 + ip2), .slice x.2.1 (ss1 ++ ss2.map (shS ns1.length ip1)).length x.2.2], .int .i64 0]) ∧ Sat w w' [row x.1.1 x.1.2 116 8 (ns1 ++ ns2).length ((ns1 ++ ns2).flatMap ePrm), row x.2.1 x.2.2 126 4 (ss1 ++ ss2.map (shS ns1.length ip1)).length ((ss1 ++ ss2.map (shS ns1.length ip1)).flatMap eSyn)] := by
  refine fstart Try.func45 rfl rfl (Sat.nil w) ?_
  refine Cd.seq ?_
  refine Cd.region ?_
  refine Ops.box [.slice na1 ns1.length nc1, .int .i64 ip1, .slice sa1 ss1.length sc1] rfl rfl ?_
  intro b1
  refine Ops.box [.slice na2 ns2.length nc2, .int .i64 ip2, .slice sa2 ss2.length sc2] rfl rfl ?_
  intro b2
  refine Ops.alc [.slice none 0 0, .int .i64 0, .slice none 0 0] zc_32 ?_
  intro b3
  refine Ops.q (q_asg rfl) ?_
  refine Ops.to rfl ?_
  refine Cd.seq ?_
  refine Cd.seq ?_
  refine Cd.region ?_
  refine Ops.q (q_ldBN [.slice na1 ns1.length nc1, .int .i64 ip1, .slice sa1 ss1.length sc1] isA_32 sz_32 rfl (.there (.there .here)) rfl) ?_
  refine Ops.q (q_ldBN [.slice na2 ns2.length nc2, .int .i64 ip2, .slice sa2 ss2.length sc2] isA_32 sz_32 rfl (.there .here) rfl) ?_
  refine Ops.lit [.slice na1 ns1.length nc1, .int .i64 ip1, .slice sa1 ss1.length sc1, .slice na2 ns2.length nc2, .int .i64 ip2, .slice sa2 ss2.length sc2] el_154 zsb_32 rfl rfl ⟨by decide, by decide⟩ rfl ?_
  intro b4
  refine Ops.q (q_len esz_154 rfl) ?_
  refine Ops.q (q_mv rfl) ?_
  refine Ops.to rfl ?_
  refine Cd.block ?_
  refine Cd.lp (σ := Nat) (fun k => k ≤ 2) (fun k => [(2, .pointer (some ⟨b1, 0, none⟩)), (3, .pointer (some ⟨b2, 0, none⟩)), (4, .pointer (some ⟨b3, 0, none⟩)), (5, .int .i64 0), (15, .slice (some ⟨b4, 0, none⟩) 2 2), (16, .int .i64 2), (17, .int .i64 (k : Int))]) (fun k => [row (some ⟨b4, 0, none⟩) 2 32 3 2 [.slice na1 ns1.length nc1, .int .i64 ip1, .slice sa1 ss1.length sc1, .slice na2 ns2.length nc2, .int .i64 ip2, .slice sa2 ss2.length sc2], blk b1 32 [.slice na1 ns1.length nc1, .int .i64 ip1, .slice sa1 ss1.length sc1], blk b2 32 [.slice na2 ns2.length nc2, .int .i64 ip2, .slice sa2 ss2.length sc2], blk b3 32 [.slice none 0 0, .int .i64 0, .slice none 0 0]]) (fun k => 2 - k) 0 (Nat.zero_le _) ⟨rfl, rfl, rfl, rfl, rfl, rfl, rfl, trivial⟩ (fun _ hs => ((((hs.pull (.there .here)).pull (.there (.there .here))).pull (.there (.there (.there .here)))).pull (.there (.there (.there .here))))) ?_
  intro k hI
  refine Cd.seq ?_
  refine Cd.region ?_
  by_cases hk : (k : Int) < 2
  · refine Ops.q (q_cmp rfl rfl (c_lt hk)) ?_
    refine Ops.to rfl ?_
    refine Cd.seq ?_
    refine Cd.cond_t rfl ?_
    refine Cd.skipTo rfl ?_
    refine Cd.seq ?_
    refine Cd.block ?_
    refine Cd.seq ?_
    rcases (show k = 0 ∨ k = 1 by omega) with rfl | rfl
    · refine Cd.region ?_
      refine Ops.q (q_ix (k := 0) esz_154 rfl rfl (by omega)) ?_
      refine Ops.q (q_ldON [.slice na1 ns1.length nc1, .int .i64 ip1, .slice sa1 ss1.length sc1] isA_32 sz_32 rfl .here rfl) ?_
      refine Ops.alc [.slice none 0 0, .int .i64 0, .slice none 0 0] zc_32 ?_
      intro b5
      refine Ops.stB [.slice na1 ns1.length nc1, .int .i64 ip1, .slice sa1 ss1.length sc1] [.slice na1 ns1.length nc1, .int .i64 ip1, .slice sa1 ss1.length sc1] sz_32 rfl rfl rfl (one rfl) .here rfl rfl ?_
      refine Ops.to rfl ?_
      refine Cd.seq ?_
      refine Cd.region ?_
      refine Ops.q (q_ldBN [.slice na1 ns1.length nc1, .int .i64 ip1, .slice sa1 ss1.length sc1] isA_32 sz_32 rfl .here rfl) ?_
      refine Ops.cp en_35 rfl (fun w hs => chk0R (N := ⟨ns1, ip1, ss1⟩) (check_c _ _ _ _ ns1 ip1 ss1 w (hN1.later hs.below) (hS1.later hs.below)) hc1) ?_
      refine Ops.q (q_asg rfl) ?_
      refine Ops.to rfl ?_
      refine Cd.seq ?_
      refine Cd.region ?_
      refine Ops.q (q_mv rfl) ?_
      refine Ops.q (q_cmp rfl rfl (c_nne (by decide))) ?_
      refine Ops.to rfl ?_
      refine Cd.cond_f rfl ?_
      refine Cd.skipTo rfl ?_
      refine Cd.region ?_
      refine Ops.q (q_ar rfl rfl (a_inc (by omega))) ?_
      refine Ops.q (q_mv rfl) ?_
      refine Ops.rnd (0 + 1) rfl (by omega) (by omega) ⟨rfl, rfl, rfl, rfl, rfl, rfl, rfl, trivial⟩ (fun _ hs => (((((hs.pull (.there (.there (.there (.there .here))))).pull (.there (.there (.there (.there .here))))).pull (.there (.there (.there (.there .here))))).pull (.there (.there (.there (.there .here))))).pull (.there (.there (.there (.there .here))))).drop) 
    · refine Cd.region ?_
      refine Ops.q (q_ix (k := 1) esz_154 rfl rfl (by omega)) ?_
      refine Ops.q (q_ldON [.slice na2 ns2.length nc2, .int .i64 ip2, .slice sa2 ss2.length sc2] isA_32 sz_32 rfl .here rfl) ?_
      refine Ops.alc [.slice none 0 0, .int .i64 0, .slice none 0 0] zc_32 ?_
      intro b6
      refine Ops.stB [.slice na2 ns2.length nc2, .int .i64 ip2, .slice sa2 ss2.length sc2] [.slice na2 ns2.length nc2, .int .i64 ip2, .slice sa2 ss2.length sc2] sz_32 rfl rfl rfl (one rfl) .here rfl rfl ?_
      refine Ops.to rfl ?_
      refine Cd.seq ?_
      refine Cd.region ?_
      refine Ops.q (q_ldBN [.slice na2 ns2.length nc2, .int .i64 ip2, .slice sa2 ss2.length sc2] isA_32 sz_32 rfl .here rfl) ?_
      refine Ops.cp en_35 rfl (fun w hs => chk0R (N := ⟨ns2, ip2, ss2⟩) (check_c _ _ _ _ ns2 ip2 ss2 w (hN2.later hs.below) (hS2.later hs.below)) hc2) ?_
      refine Ops.q (q_asg rfl) ?_
      refine Ops.to rfl ?_
      refine Cd.seq ?_
      refine Cd.region ?_
      refine Ops.q (q_mv rfl) ?_
      refine Ops.q (q_cmp rfl rfl (c_nne (by decide))) ?_
      refine Ops.to rfl ?_
      refine Cd.cond_f rfl ?_
      refine Cd.skipTo rfl ?_
      refine Cd.region ?_
      refine Ops.q (q_ar rfl rfl (a_inc (by omega))) ?_
      refine Ops.q (q_mv rfl) ?_
      refine Ops.rnd (1 + 1) rfl (by omega) (by omega) ⟨rfl, rfl, rfl, rfl, rfl, rfl, rfl, trivial⟩ (fun _ hs => (((((hs.pull (.there (.there (.there (.there .here))))).pull (.there (.there (.there (.there .here))))).pull (.there (.there (.there (.there .here))))).pull (.there (.there (.there (.there .here))))).pull (.there (.there (.there (.there .here))))).drop) 
  · refine Ops.q (q_cmp rfl rfl (c_nlt (by omega))) ?_
    refine Ops.to rfl ?_
    refine Cd.seq ?_
    refine Cd.cond_f rfl ?_
    refine Cd.exitTo rfl ?_
    refine Cd.cutE (β := Nat × Option Addr × Nat × Option Addr × Nat) (fun bb => [(2, .pointer (some ⟨b1, 0, none⟩)), (3, .pointer (some ⟨b2, 0, none⟩)), (4, .pointer (some ⟨b3, 0, none⟩)), (5, .int .i64 0), (9, .pointer (some ⟨bb.1, 0, none⟩))]) (fun bb => [blk bb.1 32 [.slice bb.2.1 ((ns1 ++ ns2).length) bb.2.2.1, .int .i64 (ip1 + ip2), .slice bb.2.2.2.1 ((ss1 ++ ss2).length) bb.2.2.2.2], row bb.2.1 bb.2.2.1 116 8 ((ns1 ++ ns2).length) ((ns1 ++ ns2).flatMap ePrm), row bb.2.2.2.1 bb.2.2.2.2 126 4 ((ss1 ++ ss2).length) ((ss1 ++ ss2).flatMap eSyn), blk b1 32 [.slice na1 ns1.length nc1, .int .i64 ip1, .slice sa1 ss1.length sc1], blk b2 32 [.slice na2 ns2.length nc2, .int .i64 ip2, .slice sa2 ss2.length sc2], blk b3 32 [.slice none 0 0, .int .i64 0, .slice none 0 0]]) ?_ ?_
    · refine Cd.draw rfl (by kernel_rfl) (.cons (.there .here) (.cons (.there .here) .nil)) ?_
      intro F7 St8 hP9 hF10 hR11
      refine Dr.q (i := 0) hP9 rfl (by kernel_rfl) (q_fa fo_32_0 rfl) ?_
      refine Dr.q (i := 1) hP9 rfl (by kernel_rfl) (q_ldB isA_29 rfl .here rfl) ?_
      refine Dr.q (i := 2) hP9 rfl (by kernel_rfl) (q_fa fo_32_0 rfl) ?_
      refine Dr.q (i := 3) hP9 rfl (by kernel_rfl) (q_ldB isA_29 rfl (.there .here) rfl) ?_
      refine Dr.q (i := 6) hP9 rfl (by kernel_rfl) (q_fa fo_32_1 rfl) ?_
      refine Dr.q (i := 7) hP9 rfl (by kernel_rfl) (q_ldB isA_3 rfl .here rfl) ?_
      refine Dr.q (i := 8) hP9 rfl (by kernel_rfl) (q_fa fo_32_1 rfl) ?_
      refine Dr.q (i := 9) hP9 rfl (by kernel_rfl) (q_ldB isA_3 rfl (.there .here) rfl) ?_
      refine Dr.q (i := 10) hP9 rfl (by kernel_rfl) (q_ar (v := ip1 + ip2) rfl rfl (a_add (by omega))) ?_
      refine Dr.q (i := 11) hP9 rfl (by kernel_rfl) (q_fa fo_32_2 rfl) ?_
      refine Dr.q (i := 12) hP9 rfl (by kernel_rfl) (q_ldB isA_30 rfl .here rfl) ?_
      refine Dr.q (i := 13) hP9 rfl (by kernel_rfl) (q_fa fo_32_2 rfl) ?_
      refine Dr.q (i := 14) hP9 rfl (by kernel_rfl) (q_ldB isA_30 rfl (.there .here) rfl) ?_
      refine Dr.e3 (i := 4) (j := 15) (k := 18) rfl rfl rfl (by kernel_rfl) ?_ ?_ ?_
      · refine Ops.lit [.slice na1 ns1.length nc1, .slice na2 ns2.length nc2] el_192 zsb_29 rfl rfl ⟨by decide, by decide⟩ rfl ?_
        intro b12
        refine Dr.back (fun _ hs => hF10 (.there .here) hs) ?_
        refine Dr.e3 (i := 5) (j := 15) (k := 18) rfl rfl rfl (by kernel_rfl) ?_ ?_ ?_
        · refine Ops.cl (α := Option Addr × Nat) (v := fun x => Value.slice x.1 (ns1 ++ ns2).length x.2) (B := fun x => [row x.1 x.2 116 8 (ns1 ++ ns2).length ((ns1 ++ ns2).flatMap ePrm)]) en_81 rfl (fun w hs => concatP2 (hs.ownRo .here) (hN1.later hs.below) (hN2.later hs.below) (by omega)) ?_
          rintro ⟨pp13, ppc14⟩
          refine Dr.back (fun _ hs => hF10 (.there (.there .here)) hs) ?_
          refine Dr.e2 (i := 15) (j := 18) rfl rfl (by kernel_rfl) ?_ ?_
          · refine Ops.lit [.slice sa1 ss1.length sc1, .slice sa2 ss2.length sc2] el_194 zsb_30 rfl rfl ⟨by decide, by decide⟩ rfl ?_
            intro b15
            refine Dr.back (fun _ hs => hF10 (.there (.there (.there .here))) hs) ?_
            refine Dr.e2 (i := 16) (j := 18) rfl rfl (by kernel_rfl) ?_ ?_
            · refine Ops.cl (α := Option Addr × Nat) (v := fun x => Value.slice x.1 (ss1 ++ ss2).length x.2) (B := fun x => [row x.1 x.2 126 4 (ss1 ++ ss2).length ((ss1 ++ ss2).flatMap eSyn)]) en_82 rfl (fun w hs => concatS2 (hs.ownRo .here) (hS1.later hs.below) (hS2.later hs.below) (by omega)) ?_
              rintro ⟨qq16, qqc17⟩
              refine Dr.back (fun _ hs => hF10 (.there (.there (.there (.there .here)))) hs) ?_
              refine Dr.q (i := 17) hP9 rfl (by kernel_rfl) (q_bld [.slice pp13 ((ns1 ++ ns2).length) ppc14, .int .i64 (ip1 + ip2), .slice qq16 ((ss1 ++ ss2).length) qqc17] pls_32 zc_32 rfl rfl) ?_
              refine Dr.e (i := 18) rfl (by kernel_rfl) ?_
              refine Ops.alc [.slice none 0 0, .int .i64 0, .slice none 0 0] zc_32 ?_
              intro b18
              refine Dr.back (fun _ hs => hF10 (.there (.there (.there (.there (.there .here))))) hs) ?_
              refine Dr.tail 19 (by kernel_rfl) ?_
              refine Ops.sat ?_ (fun _ hs => hR11 (.there (.there (.there (.there (.there .here))))) hs)
              refine Ops.stB [.slice pp13 ((ns1 ++ ns2).length) ppc14, .int .i64 (ip1 + ip2), .slice qq16 ((ss1 ++ ss2).length) qqc17] [.slice pp13 ((ns1 ++ ns2).length) ppc14, .int .i64 (ip1 + ip2), .slice qq16 ((ss1 ++ ss2).length) qqc17] sz_32 rfl rfl rfl (one rfl) (.there (.there .here)) rfl rfl ?_
              exact Ops.cutEndE (b18, pp13, ppc14, qq16, qqc17) rfl ⟨rfl, rfl, rfl, rfl, rfl, trivial⟩ (fun _ hs => (((((((((hs.pull (.there (.there (.there (.there (.there (.there (.there (.there .here))))))))).pull (.there (.there .here))).pull (.there (.there .here))).pull (.there (.there (.there (.there .here))))).pull (.there (.there (.there (.there (.there (.there .here))))))).pull (.there (.there (.there (.there (.there .here)))))).pull (.there (.there (.there (.there (.there (.there .here))))))).drop.pull (.there (.there (.there (.there (.there (.there .here))))))).drop.pull (.there (.there (.there (.there (.there (.there .here))))))).drop)
            · refine Ops.alc [.slice none 0 0, .int .i64 0, .slice none 0 0] zc_32 ?_
              intro b19
              refine Dr.back (fun _ hs => hF10 (.there (.there (.there (.there .here)))) hs) ?_
              refine Dr.e (i := 16) rfl (by kernel_rfl) ?_
              refine Ops.cl (α := Option Addr × Nat) (v := fun x => Value.slice x.1 (ss1 ++ ss2).length x.2) (B := fun x => [row x.1 x.2 126 4 (ss1 ++ ss2).length ((ss1 ++ ss2).flatMap eSyn)]) en_82 rfl (fun w hs => concatS2 (hs.ownRo (.there .here)) (hS1.later hs.below) (hS2.later hs.below) (by omega)) ?_
              rintro ⟨qq20, qqc21⟩
              refine Dr.back (fun _ hs => hF10 (.there (.there (.there (.there (.there .here))))) hs) ?_
              refine Dr.q (i := 17) hP9 rfl (by kernel_rfl) (q_bld [.slice pp13 ((ns1 ++ ns2).length) ppc14, .int .i64 (ip1 + ip2), .slice qq20 ((ss1 ++ ss2).length) qqc21] pls_32 zc_32 rfl rfl) ?_
              refine Dr.tail 19 (by kernel_rfl) ?_
              refine Ops.sat ?_ (fun _ hs => hR11 (.there (.there (.there (.there (.there .here))))) hs)
              refine Ops.stB [.slice pp13 ((ns1 ++ ns2).length) ppc14, .int .i64 (ip1 + ip2), .slice qq20 ((ss1 ++ ss2).length) qqc21] [.slice pp13 ((ns1 ++ ns2).length) ppc14, .int .i64 (ip1 + ip2), .slice qq20 ((ss1 ++ ss2).length) qqc21] sz_32 rfl rfl rfl (one rfl) (.there (.there (.there .here))) rfl rfl ?_
              exact Ops.cutEndE (b19, pp13, ppc14, qq20, qqc21) rfl ⟨rfl, rfl, rfl, rfl, rfl, trivial⟩ (fun _ hs => (((((((((hs.pull (.there (.there (.there (.there (.there (.there (.there (.there .here))))))))).pull (.there (.there .here))).pull (.there (.there .here))).pull (.there (.there (.there .here)))).pull (.there (.there (.there (.there (.there (.there .here))))))).pull (.there (.there (.there (.there (.there .here)))))).pull (.there (.there (.there (.there (.there (.there .here))))))).drop.pull (.there (.there (.there (.there (.there (.there .here))))))).drop.pull (.there (.there (.there (.there (.there (.there .here))))))).drop)
          · refine Ops.alc [.slice none 0 0, .int .i64 0, .slice none 0 0] zc_32 ?_
            intro b22
            refine Dr.back (fun _ hs => hF10 (.there (.there (.there .here))) hs) ?_
            refine Dr.e (i := 15) rfl (by kernel_rfl) ?_
            refine Ops.lit [.slice sa1 ss1.length sc1, .slice sa2 ss2.length sc2] el_194 zsb_30 rfl rfl ⟨by decide, by decide⟩ rfl ?_
            intro b23
            refine Dr.back (fun _ hs => hF10 (.there (.there (.there (.there .here)))) hs) ?_
            refine Dr.e (i := 16) rfl (by kernel_rfl) ?_
            refine Ops.cl (α := Option Addr × Nat) (v := fun x => Value.slice x.1 (ss1 ++ ss2).length x.2) (B := fun x => [row x.1 x.2 126 4 (ss1 ++ ss2).length ((ss1 ++ ss2).flatMap eSyn)]) en_82 rfl (fun w hs => concatS2 (hs.ownRo .here) (hS1.later hs.below) (hS2.later hs.below) (by omega)) ?_
            rintro ⟨qq24, qqc25⟩
            refine Dr.back (fun _ hs => hF10 (.there (.there (.there (.there (.there .here))))) hs) ?_
            refine Dr.q (i := 17) hP9 rfl (by kernel_rfl) (q_bld [.slice pp13 ((ns1 ++ ns2).length) ppc14, .int .i64 (ip1 + ip2), .slice qq24 ((ss1 ++ ss2).length) qqc25] pls_32 zc_32 rfl rfl) ?_
            refine Dr.tail 19 (by kernel_rfl) ?_
            refine Ops.sat ?_ (fun _ hs => hR11 (.there (.there (.there (.there (.there .here))))) hs)
            refine Ops.stB [.slice pp13 ((ns1 ++ ns2).length) ppc14, .int .i64 (ip1 + ip2), .slice qq24 ((ss1 ++ ss2).length) qqc25] [.slice pp13 ((ns1 ++ ns2).length) ppc14, .int .i64 (ip1 + ip2), .slice qq24 ((ss1 ++ ss2).length) qqc25] sz_32 rfl rfl rfl (one rfl) (.there (.there (.there (.there .here)))) rfl rfl ?_
            exact Ops.cutEndE (b22, pp13, ppc14, qq24, qqc25) rfl ⟨rfl, rfl, rfl, rfl, rfl, trivial⟩ (fun _ hs => (((((((((hs.pull (.there (.there (.there (.there (.there (.there (.there (.there .here))))))))).pull (.there (.there .here))).pull (.there (.there .here))).pull (.there (.there (.there .here)))).pull (.there (.there (.there (.there (.there (.there .here))))))).pull (.there (.there (.there (.there (.there (.there .here))))))).pull (.there (.there (.there (.there (.there (.there .here))))))).drop.pull (.there (.there (.there (.there (.there (.there .here))))))).drop.pull (.there (.there (.there (.there (.there (.there .here))))))).drop)
        · refine Ops.lit [.slice sa1 ss1.length sc1, .slice sa2 ss2.length sc2] el_194 zsb_30 rfl rfl ⟨by decide, by decide⟩ rfl ?_
          intro b26
          refine Dr.back (fun _ hs => hF10 (.there (.there .here)) hs) ?_
          refine Dr.e2 (i := 5) (j := 18) rfl rfl (by kernel_rfl) ?_ ?_
          · refine Ops.cl (α := Option Addr × Nat) (v := fun x => Value.slice x.1 (ns1 ++ ns2).length x.2) (B := fun x => [row x.1 x.2 116 8 (ns1 ++ ns2).length ((ns1 ++ ns2).flatMap ePrm)]) en_81 rfl (fun w hs => concatP2 (hs.ownRo (.there .here)) (hN1.later hs.below) (hN2.later hs.below) (by omega)) ?_
            rintro ⟨pp27, ppc28⟩
            refine Dr.back (fun _ hs => hF10 (.there (.there (.there .here))) hs) ?_
            refine Dr.e2 (i := 16) (j := 18) rfl rfl (by kernel_rfl) ?_ ?_
            · refine Ops.cl (α := Option Addr × Nat) (v := fun x => Value.slice x.1 (ss1 ++ ss2).length x.2) (B := fun x => [row x.1 x.2 126 4 (ss1 ++ ss2).length ((ss1 ++ ss2).flatMap eSyn)]) en_82 rfl (fun w hs => concatS2 (hs.ownRo (.there .here)) (hS1.later hs.below) (hS2.later hs.below) (by omega)) ?_
              rintro ⟨qq29, qqc30⟩
              refine Dr.back (fun _ hs => hF10 (.there (.there (.there (.there .here)))) hs) ?_
              refine Dr.q (i := 17) hP9 rfl (by kernel_rfl) (q_bld [.slice pp27 ((ns1 ++ ns2).length) ppc28, .int .i64 (ip1 + ip2), .slice qq29 ((ss1 ++ ss2).length) qqc30] pls_32 zc_32 rfl rfl) ?_
              refine Dr.e (i := 18) rfl (by kernel_rfl) ?_
              refine Ops.alc [.slice none 0 0, .int .i64 0, .slice none 0 0] zc_32 ?_
              intro b31
              refine Dr.back (fun _ hs => hF10 (.there (.there (.there (.there (.there .here))))) hs) ?_
              refine Dr.tail 19 (by kernel_rfl) ?_
              refine Ops.sat ?_ (fun _ hs => hR11 (.there (.there (.there (.there (.there .here))))) hs)
              refine Ops.stB [.slice pp27 ((ns1 ++ ns2).length) ppc28, .int .i64 (ip1 + ip2), .slice qq29 ((ss1 ++ ss2).length) qqc30] [.slice pp27 ((ns1 ++ ns2).length) ppc28, .int .i64 (ip1 + ip2), .slice qq29 ((ss1 ++ ss2).length) qqc30] sz_32 rfl rfl rfl (one rfl) (.there (.there .here)) rfl rfl ?_
              exact Ops.cutEndE (b31, pp27, ppc28, qq29, qqc30) rfl ⟨rfl, rfl, rfl, rfl, rfl, trivial⟩ (fun _ hs => (((((((((hs.pull (.there (.there (.there (.there (.there (.there (.there (.there .here))))))))).pull (.there (.there .here))).pull (.there (.there .here))).pull (.there (.there (.there (.there .here))))).pull (.there (.there (.there (.there (.there .here)))))).pull (.there (.there (.there (.there (.there .here)))))).pull (.there (.there (.there (.there (.there (.there .here))))))).drop.pull (.there (.there (.there (.there (.there (.there .here))))))).drop.pull (.there (.there (.there (.there (.there (.there .here))))))).drop)
            · refine Ops.alc [.slice none 0 0, .int .i64 0, .slice none 0 0] zc_32 ?_
              intro b32
              refine Dr.back (fun _ hs => hF10 (.there (.there (.there (.there .here)))) hs) ?_
              refine Dr.e (i := 16) rfl (by kernel_rfl) ?_
              refine Ops.cl (α := Option Addr × Nat) (v := fun x => Value.slice x.1 (ss1 ++ ss2).length x.2) (B := fun x => [row x.1 x.2 126 4 (ss1 ++ ss2).length ((ss1 ++ ss2).flatMap eSyn)]) en_82 rfl (fun w hs => concatS2 (hs.ownRo (.there (.there .here))) (hS1.later hs.below) (hS2.later hs.below) (by omega)) ?_
              rintro ⟨qq33, qqc34⟩
              refine Dr.back (fun _ hs => hF10 (.there (.there (.there (.there (.there .here))))) hs) ?_
              refine Dr.q (i := 17) hP9 rfl (by kernel_rfl) (q_bld [.slice pp27 ((ns1 ++ ns2).length) ppc28, .int .i64 (ip1 + ip2), .slice qq33 ((ss1 ++ ss2).length) qqc34] pls_32 zc_32 rfl rfl) ?_
              refine Dr.tail 19 (by kernel_rfl) ?_
              refine Ops.sat ?_ (fun _ hs => hR11 (.there (.there (.there (.there (.there .here))))) hs)
              refine Ops.stB [.slice pp27 ((ns1 ++ ns2).length) ppc28, .int .i64 (ip1 + ip2), .slice qq33 ((ss1 ++ ss2).length) qqc34] [.slice pp27 ((ns1 ++ ns2).length) ppc28, .int .i64 (ip1 + ip2), .slice qq33 ((ss1 ++ ss2).length) qqc34] sz_32 rfl rfl rfl (one rfl) (.there (.there (.there .here))) rfl rfl ?_
              exact Ops.cutEndE (b32, pp27, ppc28, qq33, qqc34) rfl ⟨rfl, rfl, rfl, rfl, rfl, trivial⟩ (fun _ hs => (((((((((hs.pull (.there (.there (.there (.there (.there (.there (.there (.there .here))))))))).pull (.there (.there .here))).pull (.there (.there .here))).pull (.there (.there (.there .here)))).pull (.there (.there (.there (.there (.there .here)))))).pull (.there (.there (.there (.there (.there .here)))))).pull (.there (.there (.there (.there (.there (.there .here))))))).drop.pull (.there (.there (.there (.there (.there (.there .here))))))).drop.pull (.there (.there (.there (.there (.there (.there .here))))))).drop)
          · refine Ops.alc [.slice none 0 0, .int .i64 0, .slice none 0 0] zc_32 ?_
            intro b35
            refine Dr.back (fun _ hs => hF10 (.there (.there (.there .here))) hs) ?_
            refine Dr.e (i := 5) rfl (by kernel_rfl) ?_
            refine Ops.cl (α := Option Addr × Nat) (v := fun x => Value.slice x.1 (ns1 ++ ns2).length x.2) (B := fun x => [row x.1 x.2 116 8 (ns1 ++ ns2).length ((ns1 ++ ns2).flatMap ePrm)]) en_81 rfl (fun w hs => concatP2 (hs.ownRo (.there (.there .here))) (hN1.later hs.below) (hN2.later hs.below) (by omega)) ?_
            rintro ⟨pp36, ppc37⟩
            refine Dr.back (fun _ hs => hF10 (.there (.there (.there (.there .here)))) hs) ?_
            refine Dr.e (i := 16) rfl (by kernel_rfl) ?_
            refine Ops.cl (α := Option Addr × Nat) (v := fun x => Value.slice x.1 (ss1 ++ ss2).length x.2) (B := fun x => [row x.1 x.2 126 4 (ss1 ++ ss2).length ((ss1 ++ ss2).flatMap eSyn)]) en_82 rfl (fun w hs => concatS2 (hs.ownRo (.there (.there .here))) (hS1.later hs.below) (hS2.later hs.below) (by omega)) ?_
            rintro ⟨qq38, qqc39⟩
            refine Dr.back (fun _ hs => hF10 (.there (.there (.there (.there (.there .here))))) hs) ?_
            refine Dr.q (i := 17) hP9 rfl (by kernel_rfl) (q_bld [.slice pp36 ((ns1 ++ ns2).length) ppc37, .int .i64 (ip1 + ip2), .slice qq38 ((ss1 ++ ss2).length) qqc39] pls_32 zc_32 rfl rfl) ?_
            refine Dr.tail 19 (by kernel_rfl) ?_
            refine Ops.sat ?_ (fun _ hs => hR11 (.there (.there (.there (.there (.there .here))))) hs)
            refine Ops.stB [.slice pp36 ((ns1 ++ ns2).length) ppc37, .int .i64 (ip1 + ip2), .slice qq38 ((ss1 ++ ss2).length) qqc39] [.slice pp36 ((ns1 ++ ns2).length) ppc37, .int .i64 (ip1 + ip2), .slice qq38 ((ss1 ++ ss2).length) qqc39] sz_32 rfl rfl rfl (one rfl) (.there (.there (.there (.there .here)))) rfl rfl ?_
            exact Ops.cutEndE (b35, pp36, ppc37, qq38, qqc39) rfl ⟨rfl, rfl, rfl, rfl, rfl, trivial⟩ (fun _ hs => (((((((((hs.pull (.there (.there (.there (.there (.there (.there (.there (.there .here))))))))).pull (.there (.there .here))).pull (.there (.there .here))).pull (.there (.there (.there .here)))).pull (.there (.there (.there (.there .here))))).pull (.there (.there (.there (.there (.there .here)))))).pull (.there (.there (.there (.there (.there (.there .here))))))).drop.pull (.there (.there (.there (.there (.there (.there .here))))))).drop.pull (.there (.there (.there (.there (.there (.there .here))))))).drop)
        · refine Ops.alc [.slice none 0 0, .int .i64 0, .slice none 0 0] zc_32 ?_
          intro b40
          refine Dr.back (fun _ hs => hF10 (.there (.there .here)) hs) ?_
          refine Dr.e2 (i := 5) (j := 15) rfl rfl (by kernel_rfl) ?_ ?_
          · refine Ops.cl (α := Option Addr × Nat) (v := fun x => Value.slice x.1 (ns1 ++ ns2).length x.2) (B := fun x => [row x.1 x.2 116 8 (ns1 ++ ns2).length ((ns1 ++ ns2).flatMap ePrm)]) en_81 rfl (fun w hs => concatP2 (hs.ownRo (.there .here)) (hN1.later hs.below) (hN2.later hs.below) (by omega)) ?_
            rintro ⟨pp41, ppc42⟩
            refine Dr.back (fun _ hs => hF10 (.there (.there (.there .here))) hs) ?_
            refine Dr.e (i := 15) rfl (by kernel_rfl) ?_
            refine Ops.lit [.slice sa1 ss1.length sc1, .slice sa2 ss2.length sc2] el_194 zsb_30 rfl rfl ⟨by decide, by decide⟩ rfl ?_
            intro b43
            refine Dr.back (fun _ hs => hF10 (.there (.there (.there (.there .here)))) hs) ?_
            refine Dr.e (i := 16) rfl (by kernel_rfl) ?_
            refine Ops.cl (α := Option Addr × Nat) (v := fun x => Value.slice x.1 (ss1 ++ ss2).length x.2) (B := fun x => [row x.1 x.2 126 4 (ss1 ++ ss2).length ((ss1 ++ ss2).flatMap eSyn)]) en_82 rfl (fun w hs => concatS2 (hs.ownRo .here) (hS1.later hs.below) (hS2.later hs.below) (by omega)) ?_
            rintro ⟨qq44, qqc45⟩
            refine Dr.back (fun _ hs => hF10 (.there (.there (.there (.there (.there .here))))) hs) ?_
            refine Dr.q (i := 17) hP9 rfl (by kernel_rfl) (q_bld [.slice pp41 ((ns1 ++ ns2).length) ppc42, .int .i64 (ip1 + ip2), .slice qq44 ((ss1 ++ ss2).length) qqc45] pls_32 zc_32 rfl rfl) ?_
            refine Dr.tail 19 (by kernel_rfl) ?_
            refine Ops.sat ?_ (fun _ hs => hR11 (.there (.there (.there (.there (.there .here))))) hs)
            refine Ops.stB [.slice pp41 ((ns1 ++ ns2).length) ppc42, .int .i64 (ip1 + ip2), .slice qq44 ((ss1 ++ ss2).length) qqc45] [.slice pp41 ((ns1 ++ ns2).length) ppc42, .int .i64 (ip1 + ip2), .slice qq44 ((ss1 ++ ss2).length) qqc45] sz_32 rfl rfl rfl (one rfl) (.there (.there (.there (.there (.there .here))))) rfl rfl ?_
            exact Ops.cutEndE (b40, pp41, ppc42, qq44, qqc45) rfl ⟨rfl, rfl, rfl, rfl, rfl, trivial⟩ (fun _ hs => (((((((((hs.pull (.there (.there (.there (.there (.there (.there (.there (.there .here))))))))).pull (.there (.there .here))).pull (.there (.there .here))).pull (.there (.there (.there .here)))).pull (.there (.there (.there (.there (.there .here)))))).pull (.there (.there (.there (.there (.there (.there .here))))))).pull (.there (.there (.there (.there (.there (.there .here))))))).drop.pull (.there (.there (.there (.there (.there (.there .here))))))).drop.pull (.there (.there (.there (.there (.there (.there .here))))))).drop)
          · refine Ops.lit [.slice sa1 ss1.length sc1, .slice sa2 ss2.length sc2] el_194 zsb_30 rfl rfl ⟨by decide, by decide⟩ rfl ?_
            intro b46
            refine Dr.back (fun _ hs => hF10 (.there (.there (.there .here))) hs) ?_
            refine Dr.e (i := 5) rfl (by kernel_rfl) ?_
            refine Ops.cl (α := Option Addr × Nat) (v := fun x => Value.slice x.1 (ns1 ++ ns2).length x.2) (B := fun x => [row x.1 x.2 116 8 (ns1 ++ ns2).length ((ns1 ++ ns2).flatMap ePrm)]) en_81 rfl (fun w hs => concatP2 (hs.ownRo (.there (.there .here))) (hN1.later hs.below) (hN2.later hs.below) (by omega)) ?_
            rintro ⟨pp47, ppc48⟩
            refine Dr.back (fun _ hs => hF10 (.there (.there (.there (.there .here)))) hs) ?_
            refine Dr.e (i := 16) rfl (by kernel_rfl) ?_
            refine Ops.cl (α := Option Addr × Nat) (v := fun x => Value.slice x.1 (ss1 ++ ss2).length x.2) (B := fun x => [row x.1 x.2 126 4 (ss1 ++ ss2).length ((ss1 ++ ss2).flatMap eSyn)]) en_82 rfl (fun w hs => concatS2 (hs.ownRo (.there .here)) (hS1.later hs.below) (hS2.later hs.below) (by omega)) ?_
            rintro ⟨qq49, qqc50⟩
            refine Dr.back (fun _ hs => hF10 (.there (.there (.there (.there (.there .here))))) hs) ?_
            refine Dr.q (i := 17) hP9 rfl (by kernel_rfl) (q_bld [.slice pp47 ((ns1 ++ ns2).length) ppc48, .int .i64 (ip1 + ip2), .slice qq49 ((ss1 ++ ss2).length) qqc50] pls_32 zc_32 rfl rfl) ?_
            refine Dr.tail 19 (by kernel_rfl) ?_
            refine Ops.sat ?_ (fun _ hs => hR11 (.there (.there (.there (.there (.there .here))))) hs)
            refine Ops.stB [.slice pp47 ((ns1 ++ ns2).length) ppc48, .int .i64 (ip1 + ip2), .slice qq49 ((ss1 ++ ss2).length) qqc50] [.slice pp47 ((ns1 ++ ns2).length) ppc48, .int .i64 (ip1 + ip2), .slice qq49 ((ss1 ++ ss2).length) qqc50] sz_32 rfl rfl rfl (one rfl) (.there (.there (.there (.there (.there .here))))) rfl rfl ?_
            exact Ops.cutEndE (b40, pp47, ppc48, qq49, qqc50) rfl ⟨rfl, rfl, rfl, rfl, rfl, trivial⟩ (fun _ hs => (((((((((hs.pull (.there (.there (.there (.there (.there (.there (.there (.there .here))))))))).pull (.there (.there .here))).pull (.there (.there .here))).pull (.there (.there (.there .here)))).pull (.there (.there (.there (.there .here))))).pull (.there (.there (.there (.there (.there (.there .here))))))).pull (.there (.there (.there (.there (.there (.there .here))))))).drop.pull (.there (.there (.there (.there (.there (.there .here))))))).drop.pull (.there (.there (.there (.there (.there (.there .here))))))).drop)
      · refine Ops.lit [.slice sa1 ss1.length sc1, .slice sa2 ss2.length sc2] el_194 zsb_30 rfl rfl ⟨by decide, by decide⟩ rfl ?_
        intro b51
        refine Dr.back (fun _ hs => hF10 (.there .here) hs) ?_
        refine Dr.e2 (i := 4) (j := 18) rfl rfl (by kernel_rfl) ?_ ?_
        · refine Ops.lit [.slice na1 ns1.length nc1, .slice na2 ns2.length nc2] el_192 zsb_29 rfl rfl ⟨by decide, by decide⟩ rfl ?_
          intro b52
          refine Dr.back (fun _ hs => hF10 (.there (.there .here)) hs) ?_
          refine Dr.e2 (i := 5) (j := 18) rfl rfl (by kernel_rfl) ?_ ?_
          · refine Ops.cl (α := Option Addr × Nat) (v := fun x => Value.slice x.1 (ns1 ++ ns2).length x.2) (B := fun x => [row x.1 x.2 116 8 (ns1 ++ ns2).length ((ns1 ++ ns2).flatMap ePrm)]) en_81 rfl (fun w hs => concatP2 (hs.ownRo .here) (hN1.later hs.below) (hN2.later hs.below) (by omega)) ?_
            rintro ⟨pp53, ppc54⟩
            refine Dr.back (fun _ hs => hF10 (.there (.there (.there .here))) hs) ?_
            refine Dr.e2 (i := 16) (j := 18) rfl rfl (by kernel_rfl) ?_ ?_
            · refine Ops.cl (α := Option Addr × Nat) (v := fun x => Value.slice x.1 (ss1 ++ ss2).length x.2) (B := fun x => [row x.1 x.2 126 4 (ss1 ++ ss2).length ((ss1 ++ ss2).flatMap eSyn)]) en_82 rfl (fun w hs => concatS2 (hs.ownRo (.there (.there .here))) (hS1.later hs.below) (hS2.later hs.below) (by omega)) ?_
              rintro ⟨qq55, qqc56⟩
              refine Dr.back (fun _ hs => hF10 (.there (.there (.there (.there .here)))) hs) ?_
              refine Dr.q (i := 17) hP9 rfl (by kernel_rfl) (q_bld [.slice pp53 ((ns1 ++ ns2).length) ppc54, .int .i64 (ip1 + ip2), .slice qq55 ((ss1 ++ ss2).length) qqc56] pls_32 zc_32 rfl rfl) ?_
              refine Dr.e (i := 18) rfl (by kernel_rfl) ?_
              refine Ops.alc [.slice none 0 0, .int .i64 0, .slice none 0 0] zc_32 ?_
              intro b57
              refine Dr.back (fun _ hs => hF10 (.there (.there (.there (.there (.there .here))))) hs) ?_
              refine Dr.tail 19 (by kernel_rfl) ?_
              refine Ops.sat ?_ (fun _ hs => hR11 (.there (.there (.there (.there (.there .here))))) hs)
              refine Ops.stB [.slice pp53 ((ns1 ++ ns2).length) ppc54, .int .i64 (ip1 + ip2), .slice qq55 ((ss1 ++ ss2).length) qqc56] [.slice pp53 ((ns1 ++ ns2).length) ppc54, .int .i64 (ip1 + ip2), .slice qq55 ((ss1 ++ ss2).length) qqc56] sz_32 rfl rfl rfl (one rfl) (.there (.there .here)) rfl rfl ?_
              exact Ops.cutEndE (b57, pp53, ppc54, qq55, qqc56) rfl ⟨rfl, rfl, rfl, rfl, rfl, trivial⟩ (fun _ hs => (((((((((hs.pull (.there (.there (.there (.there (.there (.there (.there (.there .here))))))))).pull (.there (.there .here))).pull (.there (.there .here))).pull (.there (.there (.there (.there .here))))).pull (.there (.there (.there (.there (.there .here)))))).pull (.there (.there (.there (.there (.there .here)))))).pull (.there (.there (.there (.there (.there (.there .here))))))).drop.pull (.there (.there (.there (.there (.there (.there .here))))))).drop.pull (.there (.there (.there (.there (.there (.there .here))))))).drop)
            · refine Ops.alc [.slice none 0 0, .int .i64 0, .slice none 0 0] zc_32 ?_
              intro b58
              refine Dr.back (fun _ hs => hF10 (.there (.there (.there (.there .here)))) hs) ?_
              refine Dr.e (i := 16) rfl (by kernel_rfl) ?_
              refine Ops.cl (α := Option Addr × Nat) (v := fun x => Value.slice x.1 (ss1 ++ ss2).length x.2) (B := fun x => [row x.1 x.2 126 4 (ss1 ++ ss2).length ((ss1 ++ ss2).flatMap eSyn)]) en_82 rfl (fun w hs => concatS2 (hs.ownRo (.there (.there (.there .here)))) (hS1.later hs.below) (hS2.later hs.below) (by omega)) ?_
              rintro ⟨qq59, qqc60⟩
              refine Dr.back (fun _ hs => hF10 (.there (.there (.there (.there (.there .here))))) hs) ?_
              refine Dr.q (i := 17) hP9 rfl (by kernel_rfl) (q_bld [.slice pp53 ((ns1 ++ ns2).length) ppc54, .int .i64 (ip1 + ip2), .slice qq59 ((ss1 ++ ss2).length) qqc60] pls_32 zc_32 rfl rfl) ?_
              refine Dr.tail 19 (by kernel_rfl) ?_
              refine Ops.sat ?_ (fun _ hs => hR11 (.there (.there (.there (.there (.there .here))))) hs)
              refine Ops.stB [.slice pp53 ((ns1 ++ ns2).length) ppc54, .int .i64 (ip1 + ip2), .slice qq59 ((ss1 ++ ss2).length) qqc60] [.slice pp53 ((ns1 ++ ns2).length) ppc54, .int .i64 (ip1 + ip2), .slice qq59 ((ss1 ++ ss2).length) qqc60] sz_32 rfl rfl rfl (one rfl) (.there (.there (.there .here))) rfl rfl ?_
              exact Ops.cutEndE (b58, pp53, ppc54, qq59, qqc60) rfl ⟨rfl, rfl, rfl, rfl, rfl, trivial⟩ (fun _ hs => (((((((((hs.pull (.there (.there (.there (.there (.there (.there (.there (.there .here))))))))).pull (.there (.there .here))).pull (.there (.there .here))).pull (.there (.there (.there .here)))).pull (.there (.there (.there (.there (.there .here)))))).pull (.there (.there (.there (.there (.there .here)))))).pull (.there (.there (.there (.there (.there (.there .here))))))).drop.pull (.there (.there (.there (.there (.there (.there .here))))))).drop.pull (.there (.there (.there (.there (.there (.there .here))))))).drop)
          · refine Ops.alc [.slice none 0 0, .int .i64 0, .slice none 0 0] zc_32 ?_
            intro b61
            refine Dr.back (fun _ hs => hF10 (.there (.there (.there .here))) hs) ?_
            refine Dr.e (i := 5) rfl (by kernel_rfl) ?_
            refine Ops.cl (α := Option Addr × Nat) (v := fun x => Value.slice x.1 (ns1 ++ ns2).length x.2) (B := fun x => [row x.1 x.2 116 8 (ns1 ++ ns2).length ((ns1 ++ ns2).flatMap ePrm)]) en_81 rfl (fun w hs => concatP2 (hs.ownRo (.there .here)) (hN1.later hs.below) (hN2.later hs.below) (by omega)) ?_
            rintro ⟨pp62, ppc63⟩
            refine Dr.back (fun _ hs => hF10 (.there (.there (.there (.there .here)))) hs) ?_
            refine Dr.e (i := 16) rfl (by kernel_rfl) ?_
            refine Ops.cl (α := Option Addr × Nat) (v := fun x => Value.slice x.1 (ss1 ++ ss2).length x.2) (B := fun x => [row x.1 x.2 126 4 (ss1 ++ ss2).length ((ss1 ++ ss2).flatMap eSyn)]) en_82 rfl (fun w hs => concatS2 (hs.ownRo (.there (.there (.there .here)))) (hS1.later hs.below) (hS2.later hs.below) (by omega)) ?_
            rintro ⟨qq64, qqc65⟩
            refine Dr.back (fun _ hs => hF10 (.there (.there (.there (.there (.there .here))))) hs) ?_
            refine Dr.q (i := 17) hP9 rfl (by kernel_rfl) (q_bld [.slice pp62 ((ns1 ++ ns2).length) ppc63, .int .i64 (ip1 + ip2), .slice qq64 ((ss1 ++ ss2).length) qqc65] pls_32 zc_32 rfl rfl) ?_
            refine Dr.tail 19 (by kernel_rfl) ?_
            refine Ops.sat ?_ (fun _ hs => hR11 (.there (.there (.there (.there (.there .here))))) hs)
            refine Ops.stB [.slice pp62 ((ns1 ++ ns2).length) ppc63, .int .i64 (ip1 + ip2), .slice qq64 ((ss1 ++ ss2).length) qqc65] [.slice pp62 ((ns1 ++ ns2).length) ppc63, .int .i64 (ip1 + ip2), .slice qq64 ((ss1 ++ ss2).length) qqc65] sz_32 rfl rfl rfl (one rfl) (.there (.there (.there (.there .here)))) rfl rfl ?_
            exact Ops.cutEndE (b61, pp62, ppc63, qq64, qqc65) rfl ⟨rfl, rfl, rfl, rfl, rfl, trivial⟩ (fun _ hs => (((((((((hs.pull (.there (.there (.there (.there (.there (.there (.there (.there .here))))))))).pull (.there (.there .here))).pull (.there (.there .here))).pull (.there (.there (.there .here)))).pull (.there (.there (.there (.there .here))))).pull (.there (.there (.there (.there (.there .here)))))).pull (.there (.there (.there (.there (.there (.there .here))))))).drop.pull (.there (.there (.there (.there (.there (.there .here))))))).drop.pull (.there (.there (.there (.there (.there (.there .here))))))).drop)
        · refine Ops.alc [.slice none 0 0, .int .i64 0, .slice none 0 0] zc_32 ?_
          intro b66
          refine Dr.back (fun _ hs => hF10 (.there (.there .here)) hs) ?_
          refine Dr.e (i := 4) rfl (by kernel_rfl) ?_
          refine Ops.lit [.slice na1 ns1.length nc1, .slice na2 ns2.length nc2] el_192 zsb_29 rfl rfl ⟨by decide, by decide⟩ rfl ?_
          intro b67
          refine Dr.back (fun _ hs => hF10 (.there (.there (.there .here))) hs) ?_
          refine Dr.e (i := 5) rfl (by kernel_rfl) ?_
          refine Ops.cl (α := Option Addr × Nat) (v := fun x => Value.slice x.1 (ns1 ++ ns2).length x.2) (B := fun x => [row x.1 x.2 116 8 (ns1 ++ ns2).length ((ns1 ++ ns2).flatMap ePrm)]) en_81 rfl (fun w hs => concatP2 (hs.ownRo .here) (hN1.later hs.below) (hN2.later hs.below) (by omega)) ?_
          rintro ⟨pp68, ppc69⟩
          refine Dr.back (fun _ hs => hF10 (.there (.there (.there (.there .here)))) hs) ?_
          refine Dr.e (i := 16) rfl (by kernel_rfl) ?_
          refine Ops.cl (α := Option Addr × Nat) (v := fun x => Value.slice x.1 (ss1 ++ ss2).length x.2) (B := fun x => [row x.1 x.2 126 4 (ss1 ++ ss2).length ((ss1 ++ ss2).flatMap eSyn)]) en_82 rfl (fun w hs => concatS2 (hs.ownRo (.there (.there (.there .here)))) (hS1.later hs.below) (hS2.later hs.below) (by omega)) ?_
          rintro ⟨qq70, qqc71⟩
          refine Dr.back (fun _ hs => hF10 (.there (.there (.there (.there (.there .here))))) hs) ?_
          refine Dr.q (i := 17) hP9 rfl (by kernel_rfl) (q_bld [.slice pp68 ((ns1 ++ ns2).length) ppc69, .int .i64 (ip1 + ip2), .slice qq70 ((ss1 ++ ss2).length) qqc71] pls_32 zc_32 rfl rfl) ?_
          refine Dr.tail 19 (by kernel_rfl) ?_
          refine Ops.sat ?_ (fun _ hs => hR11 (.there (.there (.there (.there (.there .here))))) hs)
          refine Ops.stB [.slice pp68 ((ns1 ++ ns2).length) ppc69, .int .i64 (ip1 + ip2), .slice qq70 ((ss1 ++ ss2).length) qqc71] [.slice pp68 ((ns1 ++ ns2).length) ppc69, .int .i64 (ip1 + ip2), .slice qq70 ((ss1 ++ ss2).length) qqc71] sz_32 rfl rfl rfl (one rfl) (.there (.there (.there (.there (.there .here))))) rfl rfl ?_
          exact Ops.cutEndE (b66, pp68, ppc69, qq70, qqc71) rfl ⟨rfl, rfl, rfl, rfl, rfl, trivial⟩ (fun _ hs => (((((((((hs.pull (.there (.there (.there (.there (.there (.there (.there (.there .here))))))))).pull (.there (.there .here))).pull (.there (.there .here))).pull (.there (.there (.there .here)))).pull (.there (.there (.there (.there .here))))).pull (.there (.there (.there (.there (.there (.there .here))))))).pull (.there (.there (.there (.there (.there (.there .here))))))).drop.pull (.there (.there (.there (.there (.there (.there .here))))))).drop.pull (.there (.there (.there (.there (.there (.there .here))))))).drop)
      · refine Ops.alc [.slice none 0 0, .int .i64 0, .slice none 0 0] zc_32 ?_
        intro b72
        refine Dr.back (fun _ hs => hF10 (.there .here) hs) ?_
        refine Dr.e2 (i := 4) (j := 15) rfl rfl (by kernel_rfl) ?_ ?_
        · refine Ops.lit [.slice na1 ns1.length nc1, .slice na2 ns2.length nc2] el_192 zsb_29 rfl rfl ⟨by decide, by decide⟩ rfl ?_
          intro b73
          refine Dr.back (fun _ hs => hF10 (.there (.there .here)) hs) ?_
          refine Dr.e2 (i := 5) (j := 15) rfl rfl (by kernel_rfl) ?_ ?_
          · refine Ops.cl (α := Option Addr × Nat) (v := fun x => Value.slice x.1 (ns1 ++ ns2).length x.2) (B := fun x => [row x.1 x.2 116 8 (ns1 ++ ns2).length ((ns1 ++ ns2).flatMap ePrm)]) en_81 rfl (fun w hs => concatP2 (hs.ownRo .here) (hN1.later hs.below) (hN2.later hs.below) (by omega)) ?_
            rintro ⟨pp74, ppc75⟩
            refine Dr.back (fun _ hs => hF10 (.there (.there (.there .here))) hs) ?_
            refine Dr.e (i := 15) rfl (by kernel_rfl) ?_
            refine Ops.lit [.slice sa1 ss1.length sc1, .slice sa2 ss2.length sc2] el_194 zsb_30 rfl rfl ⟨by decide, by decide⟩ rfl ?_
            intro b76
            refine Dr.back (fun _ hs => hF10 (.there (.there (.there (.there .here)))) hs) ?_
            refine Dr.e (i := 16) rfl (by kernel_rfl) ?_
            refine Ops.cl (α := Option Addr × Nat) (v := fun x => Value.slice x.1 (ss1 ++ ss2).length x.2) (B := fun x => [row x.1 x.2 126 4 (ss1 ++ ss2).length ((ss1 ++ ss2).flatMap eSyn)]) en_82 rfl (fun w hs => concatS2 (hs.ownRo .here) (hS1.later hs.below) (hS2.later hs.below) (by omega)) ?_
            rintro ⟨qq77, qqc78⟩
            refine Dr.back (fun _ hs => hF10 (.there (.there (.there (.there (.there .here))))) hs) ?_
            refine Dr.q (i := 17) hP9 rfl (by kernel_rfl) (q_bld [.slice pp74 ((ns1 ++ ns2).length) ppc75, .int .i64 (ip1 + ip2), .slice qq77 ((ss1 ++ ss2).length) qqc78] pls_32 zc_32 rfl rfl) ?_
            refine Dr.tail 19 (by kernel_rfl) ?_
            refine Ops.sat ?_ (fun _ hs => hR11 (.there (.there (.there (.there (.there .here))))) hs)
            refine Ops.stB [.slice pp74 ((ns1 ++ ns2).length) ppc75, .int .i64 (ip1 + ip2), .slice qq77 ((ss1 ++ ss2).length) qqc78] [.slice pp74 ((ns1 ++ ns2).length) ppc75, .int .i64 (ip1 + ip2), .slice qq77 ((ss1 ++ ss2).length) qqc78] sz_32 rfl rfl rfl (one rfl) (.there (.there (.there (.there (.there (.there .here)))))) rfl rfl ?_
            exact Ops.cutEndE (b72, pp74, ppc75, qq77, qqc78) rfl ⟨rfl, rfl, rfl, rfl, rfl, trivial⟩ (fun _ hs => (((((((((hs.pull (.there (.there (.there (.there (.there (.there (.there (.there .here))))))))).pull (.there (.there .here))).pull (.there (.there .here))).pull (.there (.there (.there .here)))).pull (.there (.there (.there (.there (.there .here)))))).pull (.there (.there (.there (.there (.there (.there (.there .here)))))))).pull (.there (.there (.there (.there (.there (.there .here))))))).drop.pull (.there (.there (.there (.there (.there (.there .here))))))).drop.pull (.there (.there (.there (.there (.there (.there .here))))))).drop)
          · refine Ops.lit [.slice sa1 ss1.length sc1, .slice sa2 ss2.length sc2] el_194 zsb_30 rfl rfl ⟨by decide, by decide⟩ rfl ?_
            intro b79
            refine Dr.back (fun _ hs => hF10 (.there (.there (.there .here))) hs) ?_
            refine Dr.e (i := 5) rfl (by kernel_rfl) ?_
            refine Ops.cl (α := Option Addr × Nat) (v := fun x => Value.slice x.1 (ns1 ++ ns2).length x.2) (B := fun x => [row x.1 x.2 116 8 (ns1 ++ ns2).length ((ns1 ++ ns2).flatMap ePrm)]) en_81 rfl (fun w hs => concatP2 (hs.ownRo (.there .here)) (hN1.later hs.below) (hN2.later hs.below) (by omega)) ?_
            rintro ⟨pp80, ppc81⟩
            refine Dr.back (fun _ hs => hF10 (.there (.there (.there (.there .here)))) hs) ?_
            refine Dr.e (i := 16) rfl (by kernel_rfl) ?_
            refine Ops.cl (α := Option Addr × Nat) (v := fun x => Value.slice x.1 (ss1 ++ ss2).length x.2) (B := fun x => [row x.1 x.2 126 4 (ss1 ++ ss2).length ((ss1 ++ ss2).flatMap eSyn)]) en_82 rfl (fun w hs => concatS2 (hs.ownRo (.there .here)) (hS1.later hs.below) (hS2.later hs.below) (by omega)) ?_
            rintro ⟨qq82, qqc83⟩
            refine Dr.back (fun _ hs => hF10 (.there (.there (.there (.there (.there .here))))) hs) ?_
            refine Dr.q (i := 17) hP9 rfl (by kernel_rfl) (q_bld [.slice pp80 ((ns1 ++ ns2).length) ppc81, .int .i64 (ip1 + ip2), .slice qq82 ((ss1 ++ ss2).length) qqc83] pls_32 zc_32 rfl rfl) ?_
            refine Dr.tail 19 (by kernel_rfl) ?_
            refine Ops.sat ?_ (fun _ hs => hR11 (.there (.there (.there (.there (.there .here))))) hs)
            refine Ops.stB [.slice pp80 ((ns1 ++ ns2).length) ppc81, .int .i64 (ip1 + ip2), .slice qq82 ((ss1 ++ ss2).length) qqc83] [.slice pp80 ((ns1 ++ ns2).length) ppc81, .int .i64 (ip1 + ip2), .slice qq82 ((ss1 ++ ss2).length) qqc83] sz_32 rfl rfl rfl (one rfl) (.there (.there (.there (.there (.there (.there .here)))))) rfl rfl ?_
            exact Ops.cutEndE (b72, pp80, ppc81, qq82, qqc83) rfl ⟨rfl, rfl, rfl, rfl, rfl, trivial⟩ (fun _ hs => (((((((((hs.pull (.there (.there (.there (.there (.there (.there (.there (.there .here))))))))).pull (.there (.there .here))).pull (.there (.there .here))).pull (.there (.there (.there .here)))).pull (.there (.there (.there (.there .here))))).pull (.there (.there (.there (.there (.there (.there (.there .here)))))))).pull (.there (.there (.there (.there (.there (.there .here))))))).drop.pull (.there (.there (.there (.there (.there (.there .here))))))).drop.pull (.there (.there (.there (.there (.there (.there .here))))))).drop)
        · refine Ops.lit [.slice sa1 ss1.length sc1, .slice sa2 ss2.length sc2] el_194 zsb_30 rfl rfl ⟨by decide, by decide⟩ rfl ?_
          intro b84
          refine Dr.back (fun _ hs => hF10 (.there (.there .here)) hs) ?_
          refine Dr.e (i := 4) rfl (by kernel_rfl) ?_
          refine Ops.lit [.slice na1 ns1.length nc1, .slice na2 ns2.length nc2] el_192 zsb_29 rfl rfl ⟨by decide, by decide⟩ rfl ?_
          intro b85
          refine Dr.back (fun _ hs => hF10 (.there (.there (.there .here))) hs) ?_
          refine Dr.e (i := 5) rfl (by kernel_rfl) ?_
          refine Ops.cl (α := Option Addr × Nat) (v := fun x => Value.slice x.1 (ns1 ++ ns2).length x.2) (B := fun x => [row x.1 x.2 116 8 (ns1 ++ ns2).length ((ns1 ++ ns2).flatMap ePrm)]) en_81 rfl (fun w hs => concatP2 (hs.ownRo .here) (hN1.later hs.below) (hN2.later hs.below) (by omega)) ?_
          rintro ⟨pp86, ppc87⟩
          refine Dr.back (fun _ hs => hF10 (.there (.there (.there (.there .here)))) hs) ?_
          refine Dr.e (i := 16) rfl (by kernel_rfl) ?_
          refine Ops.cl (α := Option Addr × Nat) (v := fun x => Value.slice x.1 (ss1 ++ ss2).length x.2) (B := fun x => [row x.1 x.2 126 4 (ss1 ++ ss2).length ((ss1 ++ ss2).flatMap eSyn)]) en_82 rfl (fun w hs => concatS2 (hs.ownRo (.there (.there .here))) (hS1.later hs.below) (hS2.later hs.below) (by omega)) ?_
          rintro ⟨qq88, qqc89⟩
          refine Dr.back (fun _ hs => hF10 (.there (.there (.there (.there (.there .here))))) hs) ?_
          refine Dr.q (i := 17) hP9 rfl (by kernel_rfl) (q_bld [.slice pp86 ((ns1 ++ ns2).length) ppc87, .int .i64 (ip1 + ip2), .slice qq88 ((ss1 ++ ss2).length) qqc89] pls_32 zc_32 rfl rfl) ?_
          refine Dr.tail 19 (by kernel_rfl) ?_
          refine Ops.sat ?_ (fun _ hs => hR11 (.there (.there (.there (.there (.there .here))))) hs)
          refine Ops.stB [.slice pp86 ((ns1 ++ ns2).length) ppc87, .int .i64 (ip1 + ip2), .slice qq88 ((ss1 ++ ss2).length) qqc89] [.slice pp86 ((ns1 ++ ns2).length) ppc87, .int .i64 (ip1 + ip2), .slice qq88 ((ss1 ++ ss2).length) qqc89] sz_32 rfl rfl rfl (one rfl) (.there (.there (.there (.there (.there (.there .here)))))) rfl rfl ?_
          exact Ops.cutEndE (b72, pp86, ppc87, qq88, qqc89) rfl ⟨rfl, rfl, rfl, rfl, rfl, trivial⟩ (fun _ hs => (((((((((hs.pull (.there (.there (.there (.there (.there (.there (.there (.there .here))))))))).pull (.there (.there .here))).pull (.there (.there .here))).pull (.there (.there (.there .here)))).pull (.there (.there (.there (.there .here))))).pull (.there (.there (.there (.there (.there (.there (.there .here)))))))).pull (.there (.there (.there (.there (.there (.there .here))))))).drop.pull (.there (.there (.there (.there (.there (.there .here))))))).drop.pull (.there (.there (.there (.there (.there (.there .here))))))).drop)
    · rintro ⟨b9, pa, pc, qa, qc⟩
      change Cd _ _ _ _ _ _ _ [(2, .pointer (some ⟨b1, 0, none⟩)), (3, .pointer (some ⟨b2, 0, none⟩)), (4, .pointer (some ⟨b3, 0, none⟩)), (5, .int .i64 0), (9, .pointer (some ⟨b9, 0, none⟩))] ([blk b9 32 [.slice pa ((ns1 ++ ns2).length) pc, .int .i64 (ip1 + ip2), .slice qa ((ss1 ++ ss2).length) qc], row pa pc 116 8 ((ns1 ++ ns2).length) ((ns1 ++ ns2).flatMap ePrm), row qa qc 126 4 ((ss1 ++ ss2).length) ((ss1 ++ ss2).flatMap eSyn), blk b1 32 [.slice na1 ns1.length nc1, .int .i64 ip1, .slice sa1 ss1.length sc1], blk b2 32 [.slice na2 ns2.length nc2, .int .i64 ip2, .slice sa2 ss2.length sc2], blk b3 32 [.slice none 0 0, .int .i64 0, .slice none 0 0]])
      refine Cd.seq ?_
      refine Cd.seq ?_
      refine Cd.region ?_
      have hsl : (ss1 ++ ss2).length = ss1.length + ss2.length := List.length_append ..
      refine Ops.q (q_fa fo_32_2 rfl) ?_
      refine Ops.q (q_ldB isA_30 rfl .here rfl) ?_
      refine Ops.q (q_fa fo_32_2 rfl) ?_
      refine Ops.q (q_ldB isA_30 rfl (.there (.there (.there .here))) rfl) ?_
      refine Ops.q (q_len esz_30 rfl) ?_
      refine Ops.q (q_cut (k := ss1.length) el_30 sz_126 rfl rfl (by rw [List.length_append]; omega)) ?_
      refine Ops.q (q_len esz_30 rfl) ?_
      refine Ops.q (q_mv rfl) ?_
      refine Ops.to rfl ?_
      refine Cd.block ?_
      refine Cd.lp (σ := Nat) (fun i => i ≤ ss2.length) (fun i => [(2, .pointer (some ⟨b1, 0, none⟩)), (3, .pointer (some ⟨b2, 0, none⟩)), (4, .pointer (some ⟨b3, 0, none⟩)), (5, .int .i64 0), (9, .pointer (some ⟨b9, 0, none⟩)), (52, .int .i64 (((ss1 ++ ss2).length - ss1.length : Nat) : Int)), (53, .int .i64 (i : Int))]) (fun i => [row qa qc 126 4 ((ss1 ++ ss2).length) ((jS ns1.length ip1 ss1 ss2 i).flatMap eSyn), blk b9 32 [.slice pa ((ns1 ++ ns2).length) pc, .int .i64 (ip1 + ip2), .slice qa ((ss1 ++ ss2).length) qc], row pa pc 116 8 ((ns1 ++ ns2).length) ((ns1 ++ ns2).flatMap ePrm), blk b1 32 [.slice na1 ns1.length nc1, .int .i64 ip1, .slice sa1 ss1.length sc1], blk b2 32 [.slice na2 ns2.length nc2, .int .i64 ip2, .slice sa2 ss2.length sc2], blk b3 32 [.slice none 0 0, .int .i64 0, .slice none 0 0]]) (fun i => ss2.length - i) 0 (Nat.zero_le _) ⟨rfl, rfl, rfl, rfl, rfl, rfl, rfl, trivial⟩ (fun _ hs => by have h1 := ((((((hs.pull (.there (.there (.there (.there (.there .here)))))).pull (.there (.there (.there (.there (.there .here)))))).pull (.there (.there (.there (.there (.there .here)))))).pull (.there (.there (.there (.there .here))))).pull (.there (.there (.there (.there .here))))).pull (.there (.there (.there (.there (.there .here)))))); rw [jS_0]; exact h1) ?_
      intro i hI
      refine Cd.seq ?_
      refine Cd.region ?_
      by_cases hi : (i : Int) < (((ss1 ++ ss2).length - ss1.length : Nat) : Int)
      · refine Ops.q (q_cmp rfl rfl (c_lt hi)) ?_
        obtain ⟨⟨sx, dx, wx, lx⟩, hx⟩ : ∃ x, ss2[i]? = some x := ⟨_, List.getElem?_eq_getElem (by omega)⟩
        have hxb := hb2 _ (List.mem_iff_getElem?.2 ⟨i, hx⟩)
        dsimp only at hxb
        have hjg := jS_get (n := ns1.length) (ip := ip1) (ss1 := ss1) hx
        have hjl := jS_len (n := ns1.length) (ip := ip1) (ss1 := ss1) (ss2 := ss2) (i := i) (by omega)
        have hfl : ((jS ns1.length ip1 ss1 ss2 i).flatMap eSyn).length = (ss1.length + ss2.length) * 4 := by rw [fm_length eSyn_len, hjl]
        refine Ops.rowpos .here (by omega) ?_
        rintro qb rfl
        refine Ops.to rfl ?_
        refine Cd.seq ?_
        refine Cd.cond_t rfl ?_
        refine Cd.skipTo rfl ?_
        refine Cd.seq ?_
        refine Cd.block ?_
        refine Cd.seq ?_
        refine Cd.region ?_
        refine Ops.q (q_mv rfl) ?_
        refine Ops.q (q_asg rfl) ?_
        refine Ops.to rfl ?_
        refine Cd.seq ?_
        refine Cd.region ?_
        refine Ops.q (q_fa fo_32_2 rfl) ?_
        refine Ops.q (q_ldB isA_30 rfl (.there .here) rfl) ?_
        refine Ops.q (q_fa fo_32_2 rfl) ?_
        refine Ops.q (q_ldB isA_30 rfl (.there (.there (.there .here))) rfl) ?_
        refine Ops.q (q_len esz_30 rfl) ?_
        refine Ops.q (q_mv rfl) ?_
        refine Ops.q (q_ar (v := (((ss1.length + i) : Nat) : Int)) rfl rfl (a_addN (by omega))) ?_
        refine Ops.q (q_ix (k := (ss1.length + i)) esz_30 rfl rfl (by rw [List.length_append]; omega)) ?_
        refine Ops.q (q_asg rfl) ?_
        refine Ops.to rfl ?_
        refine Cd.seq ?_
        refine Cd.draw rfl (by kernel_rfl) (.cons .here (.cons (.there (.there .here)) .nil)) ?_
        intro F90 St91 hP92 hF93 hR94
        refine Dr.q (i := 0) hP92 rfl (by kernel_rfl) (q_mv rfl) ?_
        refine Dr.q (i := 1) hP92 rfl (by kernel_rfl) (q_nck rfl) ?_
        refine Dr.q (i := 2) hP92 rfl (by kernel_rfl) (q_fa fo_126_1 rfl) ?_
        refine Dr.q (i := 3) hP92 rfl (by kernel_rfl) (q_ldO (v := .int .i64 dx) isA_3 rfl .here (fm_at eSyn_len hjg rfl)) ?_
        refine Dr.q (i := 4) hP92 rfl (by kernel_rfl) (q_fa fo_32_0 rfl) ?_
        refine Dr.q (i := 5) hP92 rfl (by kernel_rfl) (q_ldB isA_29 rfl (.there .here) rfl) ?_
        refine Dr.q (i := 6) hP92 rfl (by kernel_rfl) (q_len esz_29 rfl) ?_
        refine Dr.q (i := 7) hP92 rfl (by kernel_rfl) (q_ar (v := dx + (ns1.length : Int)) rfl rfl (a_add (by omega))) ?_
        refine Dr.tail 8 (by kernel_rfl) ?_
        refine Ops.sat ?_ (fun _ hs => hR94 .here hs)
        refine Ops.q (q_nck rfl) ?_
        refine Ops.q (q_fa fo_126_1 rfl) ?_
        refine Ops.stO [.int .i64 (dx + (ns1.length : Int))] (((jS ns1.length ip1 ss1 ss2 i).set (ss1.length + i) ⟨sx, dx + (ns1.length : Int), wx, lx⟩).flatMap eSyn) sz_3 rfl rfl rfl (one rfl) .here (by rw [hfl]; simp only [List.length_cons, List.length_nil]; omega) (fm_set1 (j := 1) (y := ⟨sx, dx + (ns1.length : Int), wx, lx⟩) (by omega) (by decide) hjg rfl) ?_
        have hj2 : ((jS ns1.length ip1 ss1 ss2 i).set (ss1.length + i) ⟨sx, dx + (ns1.length : Int), wx, lx⟩)[(ss1.length + i)]? = some (⟨sx, dx + (ns1.length : Int), wx, lx⟩ : Syn) := by rw [List.getElem?_set_self (by omega)]
        have hfl2 : (((jS ns1.length ip1 ss1 ss2 i).set (ss1.length + i) ⟨sx, dx + (ns1.length : Int), wx, lx⟩).flatMap eSyn).length = (ss1.length + ss2.length) * 4 := by rw [fm_length eSyn_len, List.length_set, hjl]
        refine Ops.to rfl ?_
        refine Cd.seq ?_
        refine Cd.region ?_
        refine Ops.q (q_mv rfl) ?_
        refine Ops.q (q_nck rfl) ?_
        refine Ops.q (q_fa fo_126_0 rfl) ?_
        refine Ops.q (q_ldO (v := .int .i64 sx) isA_3 rfl .here (fm_at eSyn_len hj2 rfl)) ?_
        by_cases hneg : sx < 0
        · refine Ops.q (q_cmp rfl rfl (c_lt hneg)) ?_
          refine Ops.to rfl ?_
          refine Cd.cond_t rfl ?_
          refine Cd.draw rfl (by kernel_rfl) (.cons .here (.cons .here .nil)) ?_
          intro F95 St96 hP97 hF98 hR99
          refine Dr.q (i := 0) hP97 rfl (by kernel_rfl) (q_mv rfl) ?_
          refine Dr.q (i := 1) hP97 rfl (by kernel_rfl) (q_nck rfl) ?_
          refine Dr.q (i := 2) hP97 rfl (by kernel_rfl) (q_fa fo_126_0 rfl) ?_
          refine Dr.q (i := 3) hP97 rfl (by kernel_rfl) (q_ldO (v := .int .i64 sx) isA_3 rfl .here (fm_at eSyn_len hj2 rfl)) ?_
          refine Dr.q (i := 4) hP97 rfl (by kernel_rfl) (q_fa fo_32_1 rfl) ?_
          refine Dr.q (i := 5) hP97 rfl (by kernel_rfl) (q_ldB isA_3 rfl (.there .here) rfl) ?_
          refine Dr.q (i := 6) hP97 rfl (by kernel_rfl) (q_ar (v := sx - ip1) rfl rfl (a_sub (by omega))) ?_
          refine Dr.tail 7 (by kernel_rfl) ?_
          refine Ops.sat ?_ (fun _ hs => hR99 .here hs)
          refine Ops.q (q_nck rfl) ?_
          refine Ops.q (q_fa fo_126_0 rfl) ?_
          refine Ops.stO [.int .i64 (sx - ip1)] ((((jS ns1.length ip1 ss1 ss2 i).set (ss1.length + i) ⟨sx, dx + (ns1.length : Int), wx, lx⟩).set (ss1.length + i) ⟨sx - ip1, dx + (ns1.length : Int), wx, lx⟩).flatMap eSyn) sz_3 rfl rfl rfl (one rfl) .here (by rw [hfl2]; simp only [List.length_cons, List.length_nil]; omega) (fm_set1 (j := 0) (y := ⟨sx - ip1, dx + (ns1.length : Int), wx, lx⟩) (by omega) (by decide) hj2 rfl) ?_
          refine Ops.to rfl ?_
          refine Cd.region ?_
          refine Ops.q (q_ar rfl rfl (a_inc (by omega))) ?_
          refine Ops.q (q_mv rfl) ?_
          refine Ops.rnd (i + 1) rfl (by omega) (by omega) ⟨rfl, rfl, rfl, rfl, rfl, rfl, rfl, trivial⟩ (fun _ hs => by have h1 := ((((((hs.pull (.there (.there (.there (.there (.there .here)))))).pull (.there (.there (.there (.there (.there .here)))))).pull (.there (.there (.there .here)))).pull (.there (.there (.there (.there (.there .here)))))).pull (.there (.there (.there (.there (.there .here)))))).pull (.there (.there (.there (.there (.there .here)))))); have h9 : (jS ns1.length ip1 ss1 ss2 (i + 1)) = (((jS ns1.length ip1 ss1 ss2 i).set (ss1.length + i) ⟨sx, dx + (ns1.length : Int), wx, lx⟩).set (ss1.length + i) ⟨sx - ip1, dx + (ns1.length : Int), wx, lx⟩) := (by rw [jS_step hx, List.set_set]; unfold shS; rw [if_pos hneg]); (try dsimp only); rw [h9]; exact h1) 
        · refine Ops.q (q_cmp rfl rfl (c_nlt (by omega))) ?_
          refine Ops.to rfl ?_
          refine Cd.cond_f rfl ?_
          refine Cd.draw rfl (by kernel_rfl) (.cons .here (.cons .here .nil)) ?_
          intro F100 St101 hP102 hF103 hR104
          refine Dr.q (i := 0) hP102 rfl (by kernel_rfl) (q_mv rfl) ?_
          refine Dr.q (i := 1) hP102 rfl (by kernel_rfl) (q_nck rfl) ?_
          refine Dr.q (i := 2) hP102 rfl (by kernel_rfl) (q_fa fo_126_0 rfl) ?_
          refine Dr.q (i := 3) hP102 rfl (by kernel_rfl) (q_ldO (v := .int .i64 sx) isA_3 rfl .here (fm_at eSyn_len hj2 rfl)) ?_
          refine Dr.q (i := 4) hP102 rfl (by kernel_rfl) (q_fa fo_32_0 rfl) ?_
          refine Dr.q (i := 5) hP102 rfl (by kernel_rfl) (q_ldB isA_29 rfl (.there .here) rfl) ?_
          refine Dr.q (i := 6) hP102 rfl (by kernel_rfl) (q_len esz_29 rfl) ?_
          refine Dr.q (i := 7) hP102 rfl (by kernel_rfl) (q_ar (v := sx + (ns1.length : Int)) rfl rfl (a_add (by omega))) ?_
          refine Dr.tail 8 (by kernel_rfl) ?_
          refine Ops.sat ?_ (fun _ hs => hR104 .here hs)
          refine Ops.q (q_nck rfl) ?_
          refine Ops.q (q_fa fo_126_0 rfl) ?_
          refine Ops.stO [.int .i64 (sx + (ns1.length : Int))] ((((jS ns1.length ip1 ss1 ss2 i).set (ss1.length + i) ⟨sx, dx + (ns1.length : Int), wx, lx⟩).set (ss1.length + i) ⟨sx + (ns1.length : Int), dx + (ns1.length : Int), wx, lx⟩).flatMap eSyn) sz_3 rfl rfl rfl (one rfl) .here (by rw [hfl2]; simp only [List.length_cons, List.length_nil]; omega) (fm_set1 (j := 0) (y := ⟨sx + (ns1.length : Int), dx + (ns1.length : Int), wx, lx⟩) (by omega) (by decide) hj2 rfl) ?_
          refine Ops.to rfl ?_
          refine Cd.region ?_
          refine Ops.q (q_ar rfl rfl (a_inc (by omega))) ?_
          refine Ops.q (q_mv rfl) ?_
          refine Ops.rnd (i + 1) rfl (by omega) (by omega) ⟨rfl, rfl, rfl, rfl, rfl, rfl, rfl, trivial⟩ (fun _ hs => by have h1 := ((((((hs.pull (.there (.there (.there (.there (.there .here)))))).pull (.there (.there (.there (.there (.there .here)))))).pull (.there (.there (.there .here)))).pull (.there (.there (.there (.there (.there .here)))))).pull (.there (.there (.there (.there (.there .here)))))).pull (.there (.there (.there (.there (.there .here)))))); have h9 : (jS ns1.length ip1 ss1 ss2 (i + 1)) = (((jS ns1.length ip1 ss1 ss2 i).set (ss1.length + i) ⟨sx, dx + (ns1.length : Int), wx, lx⟩).set (ss1.length + i) ⟨sx + (ns1.length : Int), dx + (ns1.length : Int), wx, lx⟩) := (by rw [jS_step hx, List.set_set]; unfold shS; rw [if_neg hneg]); (try dsimp only); rw [h9]; exact h1) 
      · refine Ops.q (q_cmp rfl rfl (c_nlt (by omega))) ?_
        rw [jS_end (show ss2.length ≤ i by omega), show (ss1 ++ ss2).length = (ss1 ++ ss2.map (shS ns1.length ip1)).length from by simp]
        refine Ops.to rfl ?_
        refine Cd.seq ?_
        refine Cd.cond_f rfl ?_
        refine Cd.exitTo rfl ?_
        refine Cd.seq ?_
        refine Cd.seq ?_
        refine Cd.region ?_
        refine Ops.q (q_ldBN [.slice pa ((ns1 ++ ns2).length) pc, .int .i64 (ip1 + ip2), .slice qa ((ss1 ++ ss2.map (shS ns1.length ip1)).length) qc] isA_32 sz_32 rfl (.there .here) rfl) ?_
        refine Ops.cp en_35 rfl (fun w hs => chk0R (N := ⟨ns1 ++ ns2, ip1 + ip2, (ss1 ++ ss2.map (shS ns1.length ip1))⟩) (check_c _ _ _ _ (ns1 ++ ns2) (ip1 + ip2) (ss1 ++ ss2.map (shS ns1.length ip1)) w (hs.ownRo (.there (.there .here))) (hs.ownRo .here)) hcj) ?_
        refine Ops.q (q_asg rfl) ?_
        refine Ops.to rfl ?_
        refine Cd.seq ?_
        refine Cd.region ?_
        refine Ops.q (q_mv rfl) ?_
        refine Ops.q (q_cmp rfl rfl (c_nne (by decide))) ?_
        refine Ops.to rfl ?_
        refine Cd.cond_f rfl ?_
        refine Cd.skipTo rfl ?_
        refine Cd.seq ?_
        refine Cd.region ?_
        refine Ops.q (q_ldBN [.slice pa ((ns1 ++ ns2).length) pc, .int .i64 (ip1 + ip2), .slice qa ((ss1 ++ ss2.map (shS ns1.length ip1)).length) qc] isA_32 sz_32 rfl (.there .here) rfl) ?_
        refine Ops.stB [.slice pa ((ns1 ++ ns2).length) pc, .int .i64 (ip1 + ip2), .slice qa ((ss1 ++ ss2.map (shS ns1.length ip1)).length) qc] [.slice pa ((ns1 ++ ns2).length) pc, .int .i64 (ip1 + ip2), .slice qa ((ss1 ++ ss2.map (shS ns1.length ip1)).length) qc] sz_32 rfl rfl rfl (one rfl) (.there (.there (.there (.there (.there .here))))) rfl rfl ?_
        refine Ops.q (q_asg rfl) ?_
        refine Ops.to rfl ?_
        refine Cd.rt (fn := Try.f45) [.agg [.slice pa ((ns1 ++ ns2).length) pc, .int .i64 (ip1 + ip2), .slice qa ((ss1 ++ ss2.map (shS ns1.length ip1)).length) qc].toArray, .int .i64 0] (by with_reducible repeat (first | exact rq_here | apply rq_then | apply rq_block)) rfl ⟨⟨_, _, rfl, fun _ hs => run_loadN isA_32 sz_32 (fun o u hu => Sat.atB (.there (.there (.there (.there (.there .here))))) (by rw [Nat.zero_add]; exact hu) hs)⟩, rfl, trivial⟩ ?_
        intro w' hs'
        exact ⟨((pa, pc), (qa, qc)), rfl, ((((((hs'.pull .here).pull (.there (.there .here))).pull (.there (.there .here))).drop.pull (.there (.there .here))).drop.pull (.there (.there .here))).drop.pull (.there (.there .here))).drop⟩
end Go.Proofs.Ytilcdghliigngaa
namespace Go.Proofs.Ytilcdghliigngaa
open Go.RowKit Go.Proofs.YtilcdghliigngaaGl Go.Proofs.YtilcdghliigngaaPm
set_option linter.unusedVariables false
set_option linter.unusedSimpArgs false
set_option linter.unusedSectionVars false
section
variable {g : List Edg} {v : Nat} {nx : List (List Int)} {st : Int} {acc : List Bool} {ws : List Int} {k : Nat}
def idlJ (ws : List Int) (k t : Nat) : List Int := (if t = 0 then [0] else []) ++ (idlA ws k t).map (fun i => i + 1)
def shE (e : Evt) : Evt := ⟨e.tick, e.id + 1⟩
def evJ (ws : List Int) (k : Nat) : List Evt := ⟨0, 0⟩ :: (evA ws k).map shE
theorem evF_sh (ws : List Int) (k : Nat) : ∀ f now, 1 ≤ now → evF (idlJ ws k) now f = (evF (idlA ws k) now f).map shE
  | 0, now, _ => rfl
  | f + 1, now, h => by
    rw [evF, evF, evF_sh ws k f (now + 1) (by omega), List.map_append]
    congr 1
    unfold idlJ
    rw [if_neg (by omega), List.nil_append, List.map_map, List.map_map]; rfl
theorem evJ_eq (T : Nat) : evF (idlJ ws k) 0 (T + 1) = ⟨0, 0⟩ :: (evF (idlA ws k) 0 (T + 1)).map shE := by
  rw [evF, evF, evF_sh ws k T 1 (by omega), List.map_append]
  unfold idlJ
  rw [if_pos rfl, List.map_append, List.map_map, List.map_map]; rfl
theorem evA_T {T : Nat} (h : 3 * ws.length + 20 ≤ T) : evF (idlA ws k) 0 T = evA ws k := by
  obtain ⟨f, rfl⟩ : ∃ f, T = 3 * ws.length + 20 + f := ⟨T - (3 * ws.length + 20), by omega⟩
  rw [evF_more (T := 3 * ws.length + 20) (fun t ht => by
    unfold idlA
    rw [if_neg (by omega), if_neg (by omega)]; rfl), AutOK.evF_eq]
theorem ev0_T {T : Nat} (h : 1 ≤ T) : evF idl0 0 T = [⟨0, 0⟩] := by
  obtain ⟨f, rfl⟩ : ∃ f, T = 1 + f := ⟨T - 1, by omega⟩
  rw [evF_more (T := 1) (fun t ht => by unfold idl0; rw [if_neg (by omega)])]; rfl
noncomputable def jF (g : List Edg) (v : Nat) (nx : List (List Int)) (st : Int) (acc : List Bool) (ws : List Int) (k t d : Nat) : Bool := if d < v then spF g 0 t d else autF nx st acc ws k t (d - v)
noncomputable def jV (g : List Edg) (v : Nat) (nx : List (List Int)) (st : Int) (acc : List Bool) (ws : List Int) (k t d : Nat) : Int := if d < v then pV g 0 t d else autV nx st acc ws k t (d - v)
def jSs (g : List Edg) (v : Nat) (nx : List (List Int)) (st : Int) (acc : List Bool) (k : Nat) : List Syn := pathSs g 0 v ++ (autSs nx st acc k).map (shS v 1)
def pNs (v : Nat) : List Prm := (List.replicate v (1 : Int)).map (setTh (onceP 0))
theorem pNs_len (v : Nat) : (pNs v).length = v := by unfold pNs; simp
def mN (nx : List (List Int)) (k : Nat) : Nat := nx.length + nx.length * k + 1
theorem path_src {y : Syn} (h : GOK g 0 v) (hy : y ∈ pathSs g 0 v) : -1 ≤ y.src ∧ y.src < (v : Int) ∧ 0 ≤ y.dst ∧ y.dst < (v : Int) ∧ -32768 ≤ y.wt ∧ y.wt ≤ 32768 ∧ 1 ≤ y.dl ∧ y.dl ≤ 16 := by
  have h1 := h.hv
  unfold pathSs at hy
  rcases List.mem_append.1 hy with hy | hy
  · rcases List.mem_append.1 hy with hy | hy
    · obtain rfl := List.mem_singleton.1 hy; dsimp only; omega
    · obtain ⟨j, _, h5, rfl⟩ := selves_mem hy; dsimp only; omega
  · obtain ⟨e, he, rfl⟩ := List.mem_map.1 hy
    have := h.he e he
    dsimp only; omega
theorem aut_src {y : Syn} (h : AutOK nx st acc ws k) (hy : y ∈ autSs nx st acc k) : -((k + 1 : Nat) : Int) ≤ y.src ∧ y.src < (mN nx k : Int) ∧ 0 ≤ y.dst ∧ y.dst < (mN nx k : Int) ∧ y.wt = 1 ∧ 1 ≤ y.dl ∧ y.dl ≤ 2 := by
  have h4 := h.st; have h5 := h.acc
  unfold mN
  rcases AutOK.ss_mem.1 hy with rfl | ⟨q, c, hq, hc, rfl | rfl | rfl⟩ | ⟨q, hq, hc, rfl⟩
  · dsimp only; omega
  · have := kq_lt hq (Nat.lt_of_lt_of_le hc (h.rlen q).1); dsimp only; omega
  · have := kq_lt hq (Nat.lt_of_lt_of_le hc (h.rlen q).1); have := (h.rlen q).1; dsimp only; omega
  · have := kq_lt hq (Nat.lt_of_lt_of_le hc (h.rlen q).1); have := h.rval hq (Nat.lt_of_lt_of_le hc (h.rlen q).1); dsimp only; omega
  · dsimp only; omega
theorem j_inX1 (hG : GOK g 0 v) (hA : AutOK nx st acc ws k) {t d : Nat} (hd : d < v) : inX (jSs g v nx st acc k) (jF g v nx st acc ws k) (idlJ ws k) t d = pX g 0 t d := by
  rw [← hG.path_inX hd]
  unfold inX jSs
  rw [sumI_app, sumI_map, sumI_zero (xs := autSs nx st acc k) (fun y hy => if_neg (fun c => by
    have := (aut_src hA hy).2.2.1
    have := c.1
    simp only [shS] at this; omega)), Int.add_zero]
  refine sumI_congr (fun y hy => ?_)
  have hb := path_src hG hy
  have e : ∀ u, srcF (jF g v nx st acc ws k) (idlJ ws k) u y.src = srcF (spF g 0) idl0 u y.src := fun u => by
    unfold srcF
    by_cases c : 0 ≤ y.src
    · rw [if_pos c, if_pos c]; unfold jF; rw [if_pos (by omega)]
    · rw [if_neg c, if_neg c]
      have hs : -1 - y.src = 0 := by omega
      rw [hs]
      unfold idlJ idl0
      have hn : ¬ (0 : Int) ∈ (idlA ws k u).map (fun i => i + 1) := fun hm => by
        obtain ⟨i, hi, e⟩ := List.mem_map.1 hm
        have := (hA.idl_ok u).2 i hi
        unfold wi at this; omega
      by_cases c2 : u = 0
      · rw [if_pos c2]; simp
      · rw [if_neg c2, List.nil_append]; simp only [hn, List.not_mem_nil]
  rw [e]
theorem j_inX2 (hG : GOK g 0 v) (hA : AutOK nx st acc ws k) {t e : Nat} : inX (jSs g v nx st acc k) (jF g v nx st acc ws k) (idlJ ws k) t (v + e) = inX (autSs nx st acc k) (autF nx st acc ws k) (idlA ws k) t e := by
  unfold inX jSs
  rw [sumI_app, sumI_zero (xs := pathSs g 0 v) (fun y hy => if_neg (fun c => by
    have := (path_src hG hy).2.2.2.1
    have := c.1; omega)), Int.zero_add, sumI_map]
  refine sumI_congr (fun y hy => ?_)
  have hb := aut_src hA hy
  have es : ∀ u, srcF (jF g v nx st acc ws k) (idlJ ws k) u (shS v 1 y).src = srcF (autF nx st acc ws k) (idlA ws k) u y.src := fun u => by
    unfold srcF shS
    dsimp only
    by_cases c : y.src < 0
    · rw [if_pos c, if_neg (by omega), if_neg (by omega)]
      unfold idlJ
      have hm : (-1 - (y.src - 1) ∈ (if u = 0 then [(0 : Int)] else []) ++ (idlA ws k u).map (fun i => i + 1)) ↔ -1 - y.src ∈ idlA ws k u := by
        rw [List.mem_append, List.mem_map]
        constructor
        · rintro (h1 | ⟨i, hi, e⟩)
          · split at h1
            · have := List.mem_singleton.1 h1; omega
            · cases h1
          · have : i = -1 - y.src := by omega
            rw [← this]; exact hi
        · intro hi; exact .inr ⟨_, hi, by omega⟩
      exact decide_eq_decide.2 hm
    · rw [if_neg c, if_pos (by omega), if_pos (by omega)]
      unfold jF
      rw [if_neg (by omega), show (y.src + (v : Int)).toNat - v = y.src.toNat by omega]
  rw [es]
  have ed : ((shS v 1 y).dst = ((v + e : Nat) : Int)) ↔ y.dst = (e : Int) := by unfold shS; dsimp only; omega
  have el : (shS v 1 y).dl = y.dl := rfl
  have ew : (shS v 1 y).wt = y.wt := rfl
  simp only [ed, el, ew]
theorem j_ns {d : Nat} {p : Prm} (hp : (pNs v ++ mNs nx.length k (mN nx k))[d]? = some p) : d < v + mN nx k ∧ ((d < v ∧ p = setTh (onceP 0) 1) ∨ ∃ e, d = v + e ∧ e < mN nx k ∧ p = gateP (hN nx.length k e)) := by
  have hd : d < v + mN nx k := by have := (List.getElem?_eq_some_iff.1 hp).1; rwa [List.length_append, pNs_len, mNs_len] at this
  refine ⟨hd, ?_⟩
  by_cases c : d < v
  · left
    rw [List.getElem?_append_left (by rw [pNs_len]; exact c)] at hp
    refine ⟨c, ?_⟩
    unfold pNs at hp
    rw [List.getElem?_map, List.getElem?_replicate, if_pos c] at hp
    cases hp; rfl
  · right
    rw [List.getElem?_append_right (by rw [pNs_len]; omega), pNs_len] at hp
    refine ⟨d - v, by omega, by omega, ?_⟩
    unfold mNs at hp
    rw [List.getElem?_map, List.getElem?_range (by omega)] at hp
    cases hp; rfl
theorem j_ss {y : Syn} (hG : GOK g 0 v) (hA : AutOK nx st acc ws k) (hy : y ∈ jSs g v nx st acc k) : -((k + 2 : Nat) : Int) ≤ y.src ∧ y.src < ((v + mN nx k : Nat) : Int) ∧ 0 ≤ y.dst ∧ y.dst < ((v + mN nx k : Nat) : Int) ∧ -32768 ≤ y.wt ∧ y.wt ≤ 32768 ∧ 1 ≤ y.dl ∧ y.dl ≤ 16 := by
  unfold jSs at hy
  rcases List.mem_append.1 hy with hy | hy
  · have := path_src hG hy; omega
  · obtain ⟨z, hz, rfl⟩ := List.mem_map.1 hy
    have := aut_src hA hz
    unfold shS
    dsimp only
    split <;> omega
theorem j_prm {p : Prm} (hp : p ∈ pNs v ++ mNs nx.length k (mN nx k)) : nCheck p = 0 ∧ p.rest = 0 := by
  rcases List.mem_append.1 hp with hp | hp
  · obtain ⟨j, hj, rfl⟩ := List.mem_map.1 hp
    obtain rfl := List.eq_of_mem_replicate hj
    exact ⟨once_ok (by omega) (by omega), rfl⟩
  · obtain ⟨j, _, rfl⟩ := List.mem_map.1 hp
    exact ⟨by unfold hN; split <;> decide, rfl⟩
theorem j_idl (hA : AutOK nx st acc ws k) (t : Nat) : (idlJ ws k t).Pairwise (· < ·) ∧ ∀ i ∈ idlJ ws k t, wi i 0 (((k + 2 : Nat) : Int) - 1) := by
  obtain ⟨h1, h2⟩ := hA.idl_ok t
  have hm : ∀ i ∈ (idlA ws k t).map (fun i => i + 1), 1 ≤ i ∧ i ≤ ((k + 2 : Nat) : Int) - 1 := fun i hi => by
    obtain ⟨j, hj, rfl⟩ := List.mem_map.1 hi
    have := h2 j hj; unfold wi at this; omega
  unfold idlJ
  refine ⟨List.pairwise_append.2 ⟨by split <;> simp, ?_, fun a ha b hb => ?_⟩, fun i hi => ?_⟩
  · rw [List.pairwise_map]; exact h1.imp (fun h => by omega)
  · have := hm b hb
    split at ha
    · have := List.mem_singleton.1 ha; omega
    · cases ha
  · unfold wi
    rcases List.mem_append.1 hi with hi | hi
    · split at hi
      · have := List.mem_singleton.1 hi; omega
      · cases hi
    · have := hm i hi; omega
def jN (g : List Edg) (v : Nat) (nx : List (List Int)) (st : Int) (acc : List Bool) (k : Nat) : NetP := ⟨pNs v ++ mNs nx.length k (mN nx k), 1 + ((k + 1 : Nat) : Int), jSs g v nx st acc k⟩
structure JOK (g : List Edg) (v : Nat) (nx : List (List Int)) (st : Int) (acc : List Bool) (ws : List Int) (k : Nat) : Prop where
  hG : GOK g 0 v
  hA : AutOK nx st acc ws k
  hv : v ≤ 10
  hn : nx.length ≤ 8
  hk : k ≤ 4
  hw : ws.length ≤ 10
namespace JOK
variable (h : JOK g v nx st acc ws k)
include h
theorem mn : mN nx k ≤ 41 := by
  have : nx.length * k ≤ 8 * 4 := Nat.mul_le_mul h.hn h.hk
  have := h.hn
  unfold mN; omega
theorem net : netCheck (jN g v nx st acc k) = 0 := by
  have h1 := h.hG.hv; have h2 := h.mn; have h3 := h.hk; have h4 := h.hA.ss_len; have h5 := h.hG.hl; have h6 := h.hA.hs; have h7 := h.hv
  have hl : (pNs v ++ mNs nx.length k (mN nx k)).length = v + mN nx k := by rw [List.length_append, pNs_len, mNs_len]
  have hss : (jSs g v nx st acc k).length ≤ 161 + 1600 := by
    unfold jSs pathSs; simp only [List.length_append, List.length_cons, List.length_nil, List.length_map, selves_len]; omega
  have e1 : firstE nCheck (pNs v ++ mNs nx.length k (mN nx k)) = 0 := firstE_all (fun p hp => (j_prm hp).1)
  have e2 : firstE (synE (pNs v ++ mNs nx.length k (mN nx k)).length (1 + ((k + 1 : Nat) : Int))) (jSs g v nx st acc k) = 0 := firstE_all (fun y hy => by
    have := j_ss h.hG h.hA hy
    unfold synE
    rw [if_pos]
    rw [hl]
    unfold wi; omega)
  unfold netCheck jN
  dsimp only
  rw [hl] at e2 ⊢
  rw [if_neg (by omega), if_neg (by omega), if_neg (by omega), if_neg (by rw [e1]; decide)]
  exact e2
theorem gate_b (t d : Nat) : 0 ≤ inX (autSs nx st acc k) (autF nx st acc ws k) (idlA ws k) t d ∧ inX (autSs nx st acc k) (autF nx st acc ws k) (idlA ws k) t d ≤ 1600 := by
  have h1 := inX_one (ss := autSs nx st acc k) (F := autF nx st acc ws k) (idl := idlA ws k) (k := t) (d := d) (fun s hs _ => h.hA.wt1 hs)
  have h2 := h.hA.ss_len
  exact ⟨h1.1, by have := h1.2.1; omega⟩
theorem pX_b (t d : Nat) : -40000 ≤ pX g 0 t d ∧ pX g 0 t d ≤ 10000 := by
  have := h.hG.cE_b t d
  unfold pX; split <;> split <;> omega
theorem ev_J : evF (idlJ ws k) 0 200 = evJ ws k := by
  rw [show 200 = 199 + 1 from rfl, evJ_eq, evA_T (by have := h.hw; omega)]; rfl
theorem prepJ : preparedE ⟨(jN g v nx st acc k).ns, (jN g v nx st acc k).inp, (jN g v nx st acc k).ss⟩ (evJ ws k) 200 10000 = 0 := by
  have h1 := h.net; have h2 := h.hw
  unfold preparedE
  rw [if_neg (by rw [show netCheck ⟨(jN g v nx st acc k).ns, (jN g v nx st acc k).inp, (jN g v nx st acc k).ss⟩ = 0 from h1]; decide), if_pos (by unfold wi; decide)]
  unfold orderedE
  rw [if_neg (by unfold evJ evA; rw [List.length_cons, List.length_map, insI_len (by rw [evsW_len]; omega), evsW_len]; omega), ← h.ev_J]
  refine evF_ord (fun t => (j_idl h.hA t).1) (fun t i hi => ?_) 200 0 none (by omega) (fun e h => by cases h)
  have := (j_idl h.hA t).2 i hi
  show wi i 0 ((1 + ((k + 1 : Nat) : Int)) - 1)
  unfold wi at this ⊢; omega
theorem runJ : runN ⟨(jN g v nx st acc k).ns, (jN g v nx st acc k).inp, (jN g v nx st acc k).ss⟩ (evJ ws k) 200 = some (outF (jF g v nx st acc ws k) (v + mN nx k) 200) := by
  have h2 := h.mn; have h3 := h.hv; have h4 := h.hk; have h5 := h.hA.hk
  have hl : (pNs v ++ mNs nx.length k (mN nx k)).length = v + mN nx k := by rw [List.length_append, pNs_len, mNs_len]
  have hr := sim_run (ns := pNs v ++ mNs nx.length k (mN nx k)) (ip := 1 + ((k + 1 : Nat) : Int)) (ss := jSs g v nx st acc k) (F := jF g v nx st acc ws k) (idl := idlJ ws k) (V := jV g v nx st acc ws k) (T := 200)
    ⟨fun p hp => j_prm hp,
     fun y hy => by have := j_ss h.hG h.hA hy; rw [hl]; omega,
     fun t => ⟨(j_idl h.hA t).1.imp (fun h => by omega), fun i hi => by have := (j_idl h.hA t).2 i hi; unfold wi at this; omega⟩⟩
    (fun d => by unfold jV; split <;> rfl)
    (fun t d _ hd => by
      rw [hl] at hd
      by_cases c : d < v
      · rw [j_inX1 h.hG h.hA c]; have := h.pX_b t d; omega
      · obtain ⟨e, rfl⟩ : ∃ e, d = v + e := ⟨d - v, by omega⟩
        rw [j_inX2 h.hG h.hA]; have := h.gate_b t e; omega)
    (fun t d p _ hp => by
      obtain ⟨hd, ⟨c, rfl⟩ | ⟨e, rfl, he, rfl⟩⟩ := j_ns hp
      · rw [j_inX1 h.hG h.hA c]
        unfold jV jF
        rw [if_pos c, if_pos c, if_pos c]
        exact Prod.ext rfl (h.hG.pV_fire d c t)
      · rw [j_inX2 h.hG h.hA]
        unfold jV jF
        rw [if_neg (by omega), if_neg (by omega), if_neg (by omega), show v + e - v = e by omega]
        have := h.gate_b t e
        rw [stepV_gate (by unfold hN; split <;> omega) (by omega), ← h.hA.fires he]; rfl)
    (by rw [hl]; omega)
  rw [hl, h.ev_J] at hr
  exact hr
theorem prepP : preparedE ⟨(pathN g 0 v).ns, (pathN g 0 v).inp, (pathN g 0 v).ss⟩ [⟨0, 0⟩] 200 10000 = 0 := by
  have h1 := h.hG.path_net
  unfold preparedE
  rw [if_neg (by rw [show netCheck ⟨(pathN g 0 v).ns, (pathN g 0 v).inp, (pathN g 0 v).ss⟩ = 0 from h1]; decide), if_pos (by unfold wi; decide)]
  unfold orderedE
  rw [if_neg (by decide), ← ev0_T (T := 200) (by omega)]
  refine evF_ord (fun k => ?_) (fun k i hi => ?_) 200 0 none (by omega) (fun e h => by cases h)
  · unfold idl0; split <;> simp
  · unfold idl0 at hi
    split at hi
    · obtain rfl := List.mem_singleton.1 hi; show (0 : Int) ≤ 0 ∧ (0 : Int) ≤ (1 : Int) - 1; decide
    · cases hi
theorem runP : runN ⟨(pathN g 0 v).ns, (pathN g 0 v).inp, (pathN g 0 v).ss⟩ [⟨0, 0⟩] 200 = some (outF (spF g 0) v 200) := by
  have h3 := h.hv
  have hl := pNs_len v
  have hr := sim_run (ns := pNs v) (ip := 1) (ss := pathSs g 0 v) (F := spF g 0) (idl := idl0) (V := pV g 0) (T := 200)
    ⟨fun p hp => j_prm (nx := []) (k := 0) (List.mem_append_left _ hp),
     fun y hy => by have := path_src h.hG hy; rw [hl]; omega,
     fun t => by
      unfold idl0
      split
      · exact ⟨by simp, fun i hi => by obtain rfl := List.mem_singleton.1 hi; decide⟩
      · exact ⟨by simp, fun i hi => by cases hi⟩⟩
    (fun d => rfl)
    (fun t d _ hd => by
      rw [hl] at hd
      have := h.pX_b t d
      rw [h.hG.path_inX hd]; omega)
    (fun t d p _ hp => by
      have hd : d < v := by have := (List.getElem?_eq_some_iff.1 hp).1; rwa [hl] at this
      have : p = setTh (onceP 0) 1 := by
        unfold pNs at hp
        rw [List.getElem?_map, List.getElem?_replicate, if_pos hd] at hp
        cases hp; rfl
      subst this
      rw [h.hG.path_inX hd]
      exact Prod.ext rfl (h.hG.pV_fire d hd t))
    (by rw [hl]; omega)
  rw [hl, ev0_T (by omega)] at hr
  exact hr
theorem prepA : preparedE ⟨(autN nx st acc k).ns, (autN nx st acc k).inp, (autN nx st acc k).ss⟩ (evA ws k) 200 10000 = 0 := by
  have h1 := h.hA.net; have h2 := h.hw
  unfold preparedE
  rw [if_neg (by rw [show netCheck ⟨(autN nx st acc k).ns, (autN nx st acc k).inp, (autN nx st acc k).ss⟩ = 0 from h1]; decide), if_pos (by unfold wi; decide)]
  unfold orderedE
  rw [if_neg (by unfold evA; rw [insI_len (by rw [evsW_len]; omega), evsW_len]; omega), ← evA_T (T := 200) (by omega)]
  exact evF_ord (fun k => (h.hA.idl_ok k).1) (fun k i hi => (h.hA.idl_ok k).2 i hi) 200 0 none (by omega) (fun e h => by cases h)
theorem runA : runN ⟨(autN nx st acc k).ns, (autN nx st acc k).inp, (autN nx st acc k).ss⟩ (evA ws k) 200 = some (outF (autF nx st acc ws k) (mN nx k) 200) := by
  have h2 := h.mn; have h3 := h.hw
  have hln : (mNs nx.length k (mN nx k)).length = mN nx k := mNs_len _ _ _
  have hr := sim_run (ns := mNs nx.length k (mN nx k)) (ip := ((k + 1 : Nat) : Int)) (ss := autSs nx st acc k) (F := autF nx st acc ws k) (idl := idlA ws k) (V := autV nx st acc ws k) (T := 200)
    ⟨fun p hp => j_prm (v := 0) (List.mem_append_right _ hp),
     fun y hy => by have := aut_src h.hA hy; rw [hln]; omega,
     fun t => ⟨(h.hA.idl_ok t).1.imp (fun h => by omega), fun i hi => by have := (h.hA.idl_ok t).2 i hi; unfold wi at this; omega⟩⟩
    (fun d => rfl)
    (fun t d _ hd => by have := h.gate_b t d; omega)
    (fun t d p _ hp => by
      obtain ⟨hd, e⟩ := List.getElem?_eq_some_iff.1 hp
      rw [hln] at hd
      have : p = gateP (hN nx.length k d) := by rw [← e]; simp [mNs]
      subst this
      have := h.gate_b t d
      rw [stepV_gate (by unfold hN; split <;> omega) (by omega), ← h.hA.fires hd]; rfl)
    (by rw [hln]; omega)
  rw [hln, evA_T (by omega)] at hr
  exact hr
end JOK
end
end Go.Proofs.Ytilcdghliigngaa
namespace Go.Proofs.Ytilcdghliigngaa
open Go.RowKit Go.Proofs.YtilcdghliigngaaGl Go.Proofs.YtilcdghliigngaaPm
set_option linter.unusedVariables false
set_option linter.unusedSimpArgs false
set_option linter.unusedSectionVars false
def lowB (v : Nat) (e : Evt) : Bool := decide (e.id < (v : Int))
def dnE (v : Nat) (e : Evt) : Evt := ⟨e.tick, e.id - (v : Int)⟩
theorem filt_at {α : Type} {p : α → Bool} {l : List α} {k : Nat} {a : α} (h : l[k]? = some a) (hp : p a = true) : (l.filter p)[((l.take k).filter p).length]? = some a := by
  have hk := (List.getElem?_eq_some_iff.1 h).1
  have e : l = l.take k ++ a :: l.drop (k + 1) := by
    rw [← (List.getElem?_eq_some_iff.1 h).2, ← List.drop_eq_getElem_cons hk, List.take_append_drop]
  rw [show (l.filter p) = (l.take k).filter p ++ (a :: l.drop (k + 1)).filter p by rw [← List.filter_append, ← e], List.getElem?_append_right (Nat.le_refl _), Nat.sub_self, List.filter_cons, if_pos hp]; rfl
theorem filt_len {α : Type} (p : α → Bool) : ∀ l : List α, (l.filter p).length + (l.filter (fun a => !p a)).length = l.length
  | [] => rfl
  | a :: l => by
    have ih := filt_len p l
    rw [List.filter_cons, List.filter_cons]
    by_cases c : p a = true
    · simp only [c, if_true, Bool.not_true, Bool.false_eq_true, if_false, List.length_cons]; omega
    · have c' : p a = false := by simpa using c
      simp only [c', Bool.false_eq_true, if_false, Bool.not_false, if_true, List.length_cons]; omega
noncomputable def xoL (g : List Edg) (v : Nat) : List Evt := outF (spF g 0) v 200
def yoL (nx : List (List Int)) (st : Int) (acc : List Bool) (ws : List Int) (k : Nat) : List Evt := outF (autF nx st acc ws k) (mN nx k) 200
noncomputable def zoL (g : List Edg) (v : Nat) (nx : List (List Int)) (st : Int) (acc : List Bool) (ws : List Int) (k : Nat) : List Evt := outF (jF g v nx st acc ws k) (v + mN nx k) 200
section
variable {g : List Edg} {v : Nat} {nx : List (List Int)} {st : Int} {acc : List Bool} {ws : List Int} {k : Nat}
theorem rng_split (n : Nat) (p : Nat → Bool) : (List.range (v + n)).filter p = (List.range v).filter p ++ ((List.range n).filter (fun e => p (v + e))).map (fun e => v + e) := by
  rw [List.range_add, List.filter_append, List.filter_map]; rfl
theorem z_tick (t : Nat) : (List.range (v + mN nx k)).filter (jF g v nx st acc ws k t) = (List.range v).filter (spF g 0 t) ++ ((List.range (mN nx k)).filter (autF nx st acc ws k t)).map (fun e => v + e) := by
  rw [rng_split]
  congr 1
  · exact List.filter_congr (fun d hd => by unfold jF; rw [if_pos (List.mem_range.1 hd)])
  · congr 1
    exact List.filter_congr (fun e _ => by unfold jF; rw [if_neg (by omega), show v + e - v = e by omega])
theorem z_low : (zoL g v nx st acc ws k).filter (lowB v) = xoL g v := by
  unfold zoL xoL outF
  rw [filter_fm]
  refine fm_congr (fun t _ => ?_)
  rw [z_tick, List.map_append, List.filter_append, List.map_map]
  have e1 : (((List.range v).filter (spF g 0 t)).map (fun d : Nat => (⟨(t : Int), (d : Int)⟩ : Evt))).filter (lowB v) = ((List.range v).filter (spF g 0 t)).map (fun d : Nat => (⟨(t : Int), (d : Int)⟩ : Evt)) := List.filter_eq_self.2 (fun e he => by
    obtain ⟨d, hd, rfl⟩ := List.mem_map.1 he
    have := List.mem_range.1 (List.mem_filter.1 hd).1
    unfold lowB; rw [decide_eq_true_eq]; dsimp only; omega)
  have e2 : (((List.range (mN nx k)).filter (autF nx st acc ws k t)).map ((fun d : Nat => (⟨(t : Int), (d : Int)⟩ : Evt)) ∘ fun e => v + e)).filter (lowB v) = [] := List.filter_eq_nil_iff.2 (fun e he => by
    obtain ⟨d, hd, rfl⟩ := List.mem_map.1 he
    unfold lowB; rw [decide_eq_true_eq]; simp only [Function.comp]; omega)
  rw [e1, e2, List.append_nil]
theorem z_high : ((zoL g v nx st acc ws k).filter (fun e => !lowB v e)).map (dnE v) = yoL nx st acc ws k := by
  unfold zoL yoL outF
  rw [filter_fm, map_fm]
  refine fm_congr (fun t _ => ?_)
  rw [z_tick, List.map_append, List.filter_append, List.map_append, List.map_map]
  have e1 : (((List.range v).filter (spF g 0 t)).map (fun d : Nat => (⟨(t : Int), (d : Int)⟩ : Evt))).filter (fun e => !lowB v e) = [] := List.filter_eq_nil_iff.2 (fun e he => by
    obtain ⟨d, hd, rfl⟩ := List.mem_map.1 he
    have := List.mem_range.1 (List.mem_filter.1 hd).1
    unfold lowB
    simp only [Bool.not_eq_true', decide_eq_false_iff_not]; omega)
  have e2 : (((List.range (mN nx k)).filter (autF nx st acc ws k t)).map ((fun d : Nat => (⟨(t : Int), (d : Int)⟩ : Evt)) ∘ fun e => v + e)).filter (fun e => !lowB v e) = ((List.range (mN nx k)).filter (autF nx st acc ws k t)).map ((fun d : Nat => (⟨(t : Int), (d : Int)⟩ : Evt)) ∘ fun e => v + e) := List.filter_eq_self.2 (fun e he => by
    obtain ⟨d, hd, rfl⟩ := List.mem_map.1 he
    unfold lowB
    simp only [Function.comp, Bool.not_eq_true', decide_eq_false_iff_not]; omega)
  rw [e1, e2, List.map_nil, List.nil_append, List.map_map]
  refine List.map_congr_left (fun d _ => ?_)
  simp only [Function.comp, dnE]
  congr 1; omega
theorem z_len : (zoL g v nx st acc ws k).length = (xoL g v).length + (yoL nx st acc ws k).length := by
  rw [← filt_len (lowB v), z_low, ← z_high (g := g) (v := v), List.length_map]
def cLo (v : Nat) (l : List Evt) : Nat := (l.filter (lowB v)).length
def cHi (v : Nat) (l : List Evt) : Nat := (l.filter (fun e => !lowB v e)).length
theorem x_at {i : Nat} {e : Evt} (h : (zoL g v nx st acc ws k)[i]? = some e) (hl : e.id < (v : Int)) : (xoL g v)[cLo v ((zoL g v nx st acc ws k).take i)]? = some e := by
  rw [← z_low (g := g) (v := v) (nx := nx) (st := st) (acc := acc) (ws := ws) (k := k)]
  exact filt_at h (by unfold lowB; rw [decide_eq_true_eq]; exact hl)
theorem y_at {i : Nat} {e : Evt} (h : (zoL g v nx st acc ws k)[i]? = some e) (hl : ¬ e.id < (v : Int)) : (yoL nx st acc ws k)[cHi v ((zoL g v nx st acc ws k).take i)]? = some (dnE v e) := by
  rw [← z_high (g := g) (v := v), List.getElem?_map, show cHi v ((zoL g v nx st acc ws k).take i) = (((zoL g v nx st acc ws k).take i).filter (fun e => !lowB v e)).length from rfl, filt_at (p := fun e => !lowB v e) h (by unfold lowB; simp only [Bool.not_eq_true', decide_eq_false_iff_not]; exact hl)]; rfl
theorem c_low {l : List Evt} {i : Nat} {e : Evt} (h : l[i]? = some e) (hl : e.id < (v : Int)) : cLo v (l.take (i + 1)) = cLo v (l.take i) + 1 ∧ cHi v (l.take (i + 1)) = cHi v (l.take i) := by
  unfold cLo cHi
  rw [List.take_add_one, h, List.filter_append, List.filter_append, List.length_append, List.length_append]
  have : lowB v e = true := by unfold lowB; rw [decide_eq_true_eq]; exact hl
  simp [this]
theorem c_high {l : List Evt} {i : Nat} {e : Evt} (h : l[i]? = some e) (hl : ¬ e.id < (v : Int)) : cLo v (l.take (i + 1)) = cLo v (l.take i) ∧ cHi v (l.take (i + 1)) = cHi v (l.take i) + 1 := by
  unfold cLo cHi
  rw [List.take_add_one, h, List.filter_append, List.filter_append, List.length_append, List.length_append]
  have : lowB v e = false := by unfold lowB; rw [decide_eq_false_iff_not]; exact hl
  simp [this]
theorem c_end {i : Nat} (h : (zoL g v nx st acc ws k).length ≤ i) : cLo v ((zoL g v nx st acc ws k).take i) = (xoL g v).length ∧ cHi v ((zoL g v nx st acc ws k).take i) = (yoL nx st acc ws k).length := by
  rw [List.take_of_length_le h]
  unfold cLo cHi
  rw [z_low, ← z_high (g := g) (v := v), List.length_map]
  exact ⟨rfl, rfl⟩
theorem z_mem {e : Evt} (h : e ∈ zoL g v nx st acc ws k) : 0 ≤ e.id ∧ e.id < ((v + mN nx k : Nat) : Int) := by
  unfold zoL outF at h
  obtain ⟨t, _, h⟩ := List.mem_flatMap.1 h
  obtain ⟨d, hd, rfl⟩ := List.mem_map.1 h
  have := List.mem_range.1 (List.mem_filter.1 hd).1
  dsimp only; omega
def allL (es : List Evt) (i : Nat) : List Evt := if i = 0 then [] else ⟨0, 0⟩ :: (es.take i).map shE
theorem allL_first {es : List Evt} {e : Evt} (h : es[0]? = some e) : allL es 1 = [⟨0, 0⟩] ++ [shE e] := by
  unfold allL
  rw [if_neg (by decide), show es.take 1 = es.take 0 ++ [e] by rw [show (1 : Nat) = 0 + 1 from rfl, List.take_add_one, h]; rfl]; rfl
theorem allL_next {es : List Evt} {i : Nat} {e : Evt} (h : es[i]? = some e) (hi : i ≠ 0) : allL es (i + 1) = allL es i ++ [shE e] := by
  unfold allL
  rw [if_neg (by omega), if_neg hi, List.take_add_one, h, List.map_append]; rfl
theorem allL_end (hA : AutOK nx st acc ws k) {i : Nat} (h : i = (evA ws k).length) : allL (evA ws k) i = evJ ws k := by
  have : 1 ≤ (evA ws k).length := by unfold evA; rw [insI_len (by rw [evsW_len]; omega)]; omega
  subst h
  unfold allL evJ
  rw [if_neg (by omega), List.take_length]
theorem allL_len (es : List Evt) (i : Nat) : (allL es i).length ≤ i + 1 := by
  unfold allL; split
  · simp
  · simp; omega
theorem evA_len : (evA ws k).length = ws.length + 1 := by unfold evA; rw [insI_len (by rw [evsW_len]; omega), evsW_len]
theorem evA_id (hA : AutOK nx st acc ws k) {e : Evt} (he : e ∈ evA ws k) : 0 ≤ e.id ∧ e.id ≤ (k : Int) := by
  unfold evA insI at he
  have hw : ∀ x ∈ evsW ws ws.length, 0 ≤ x.id ∧ x.id ≤ (k : Int) := fun x hx => by
    obtain ⟨j, _, rfl⟩ := List.mem_map.1 hx
    have := hA.wsv j
    unfold evW; dsimp only; omega
  rcases List.mem_append.1 he with he | he
  · rcases List.mem_append.1 he with he | he
    · exact hw e (List.mem_of_mem_take he)
    · obtain rfl := List.mem_singleton.1 he; dsimp only; omega
  · exact hw e (List.mem_of_mem_drop he)
theorem jSs_eq (hA : AutOK nx st acc ws k) : (pathN g 0 v).ss ++ (autN nx st acc k).ss.map (shS (pathN g 0 v).ns.length (pathN g 0 v).inp) = (jN g v nx st acc k).ss := by
  have : (pathN g 0 v).ns.length = v := pNs_len v
  rw [this]; rfl
theorem x_len : (xoL g v).length ≤ 200 * v := outF_len _ _ _
theorem y_len : (yoL nx st acc ws k).length ≤ 200 * mN nx k := outF_len _ _ _
end
end Go.Proofs.Ytilcdghliigngaa
namespace Go.Proofs.Ytilcdghliigngaa
open Go.RowKit Go.Proofs.YtilcdghliigngaaGl Go.Proofs.YtilcdghliigngaaPm
set_option linter.unusedVariables false
set_option linter.unusedSimpArgs false
theorem join_q {g : List Edg} {v : Nat} {nx : List (List Int)} {st : Int} {acc : List Bool} {ws : List Int} {k : Nat} (h : JOK g v nx st acc ws k) {na1 na2 sa1 sa2 : Option Addr} {nc1 nc2 sc1 sc2 : Nat} {w : World} (hN1 : RoL w na1 ePrm (pathN g 0 v).ns) (hS1 : RoL w sa1 eSyn (pathN g 0 v).ss) (hN2 : RoL w na2 ePrm (autN nx st acc k).ns) (hS2 : RoL w sa2 eSyn (autN nx st acc k).ss) :
    Calls Try.prog 45 [.agg [.slice na1 (pathN g 0 v).ns.length nc1, .int .i64 (pathN g 0 v).inp, .slice sa1 (pathN g 0 v).ss.length sc1].toArray, .agg [.slice na2 (autN nx st acc k).ns.length nc2, .int .i64 (autN nx st acc k).inp, .slice sa2 (autN nx st acc k).ss.length sc2].toArray].toArray w fun e w' => ∃ x : (Option Addr × Nat) × (Option Addr × Nat), e = .returned (.tuple #[.agg #[.slice x.1.1 (jN g v nx st acc k).ns.length x.1.2, .int .i64 (jN g v nx st acc k).inp, .slice x.2.1 (jN g v nx st acc k).ss.length x.2.2], .int .i64 0]) ∧ Sat w w' [row x.1.1 x.1.2 116 8 (jN g v nx st acc k).ns.length ((jN g v nx st acc k).ns.flatMap ePrm), row x.2.1 x.2.2 126 4 (jN g v nx st acc k).ss.length ((jN g v nx st acc k).ss.flatMap eSyn)] := by
  have h1 := h.hG.hv; have h2 := h.mn; have h3 := h.hk; have h4 := h.hA.ss_len; have h5 := h.hG.hl; have h6 := h.hA.hk; have h7 := h.hv
  have hj : netCheck ⟨(pathN g 0 v).ns ++ (autN nx st acc k).ns, (pathN g 0 v).inp + (autN nx st acc k).inp, (pathN g 0 v).ss ++ (autN nx st acc k).ss.map (shS (pathN g 0 v).ns.length (pathN g 0 v).inp)⟩ = 0 := by
    rw [jSs_eq h.hA]; exact h.net
  have e1 : (pathN g 0 v).ns.length = v := pNs_len v
  have e2 : (autN nx st acc k).ns.length = mN nx k := mNs_len _ _ _
  have e3 : (pathN g 0 v).ss.length = 1 + v + g.length := by
    show (pathSs g 0 v).length = _
    unfold pathSs; simp only [List.length_append, List.length_cons, List.length_nil, List.length_map, selves_len]
  have e4 : (autN nx st acc k).ss.length = (autSs nx st acc k).length := rfl
  have e5 : (pathN g 0 v).inp = 1 := rfl
  have e6 : (autN nx st acc k).inp = ((k + 1 : Nat) : Int) := rfl
  have hc := netJoin_c (ip1 := (pathN g 0 v).inp) (ip2 := (autN nx st acc k).inp) (nc1 := nc1) (nc2 := nc2) (sc1 := sc1) (sc2 := sc2) hN1 hS1 hN2 hS2 h.hG.path_net h.hA.net hj (by omega) (fun s hs => by have := aut_src h.hA hs; omega)
  rw [jSs_eq h.hA] at hc
  exact hc
theorem beside_c (nb : Int) (ea0 : Option Addr) (ec0 : Nat) (es : List Edg) (xa : Option Addr) (xc : Nat) (xs : List Int) (ua : Option Addr) (uc : Nat) (us : List Int) (w : World) (hE : RoL w ea0 eEdge es) (hX : RoL w xa eU8 xs) (hb : ∀ x ∈ xs, 0 ≤ x ∧ x ≤ 255) (hU : RoL w ua eU8 us) (hbu : ∀ x ∈ us, 0 ≤ x ∧ x ≤ 255) (hnb : 0 ≤ nb ∧ nb ≤ 255) : Calls Try.prog 12 [.int .u8 nb, .slice ea0 es.length ec0, .slice xa xs.length xc, .slice ua us.length uc].toArray w fun e w' => e = .returned (.bool true) ∧ Sat w w' [] := by
  refine fstart Try.func12 rfl rfl (Sat.nil w) ?_
  refine Cd.seq ?_
  refine Cd.region ?_
  refine Ops.q (q_asg rfl) ?_
  refine Ops.to rfl ?_
  refine Cd.seq ?_
  refine Cd.seq ?_
  refine Cd.region ?_
  refine Ops.q (q_mv rfl) ?_
  refine Ops.q (q_len esz_80 rfl) ?_
  by_cases h1 : 20 < (es.length : Int)
  · refine Ops.q (q_cmp rfl rfl (c_gt h1)) ?_
    refine Ops.q (q_mv rfl) ?_
    refine Ops.sk ?_
    refine Ops.sk ?_
    refine Ops.sk ?_
    refine Ops.q (q_pickT rfl rfl) ?_
    refine Ops.to rfl ?_
    refine Cd.cond_t rfl ?_
    refine Cd.seq ?_
    refine Cd.region ?_
    refine Ops.cp en_13 rfl (fun w hs => works_c w) ?_
    refine Ops.q (q_asg rfl) ?_
    refine Ops.to rfl ?_
    refine Cd.rt (fn := Try.f12) [.bool true] (by with_reducible repeat (first | exact rq_here | apply rq_then | apply rq_block)) rfl ⟨rfl, trivial⟩ ?_
    intro w' hs'
    exact ⟨rfl, hs'.none⟩
  · refine Ops.q (q_cmp rfl rfl (c_ngt (by omega))) ?_
    refine Ops.q (q_mv rfl) ?_
    refine Ops.q (q_mv rfl) ?_
    refine Ops.q (q_len esz_92 rfl) ?_
    by_cases h2 : 10 < (us.length : Int)
    · refine Ops.q (q_cmp rfl rfl (c_gt h2)) ?_
      refine Ops.q (q_pickF rfl rfl) ?_
      refine Ops.to rfl ?_
      refine Cd.cond_t rfl ?_
      refine Cd.seq ?_
      refine Cd.region ?_
      refine Ops.cp en_13 rfl (fun w hs => works_c w) ?_
      refine Ops.q (q_asg rfl) ?_
      refine Ops.to rfl ?_
      refine Cd.rt (fn := Try.f12) [.bool true] (by with_reducible repeat (first | exact rq_here | apply rq_then | apply rq_block)) rfl ⟨rfl, trivial⟩ ?_
      intro w' hs'
      exact ⟨rfl, hs'.none⟩
    · refine Ops.q (q_cmp rfl rfl (c_ngt (by omega))) ?_
      refine Ops.q (q_pickF rfl rfl) ?_
      refine Ops.to rfl ?_
      refine Cd.cond_f rfl ?_
      refine Cd.skipTo rfl ?_
      refine Cd.seq ?_
      refine Cd.region ?_
      refine Ops.q (q_mv rfl) ?_
      refine Ops.q (q_conv iK_5 iK_3 rfl (IntWalk.i64_in _ (by omega))) ?_
      refine Ops.q (q_ar rfl rfl (a_rem (by omega) (by omega))) ?_
      refine Ops.q (q_ar rfl rfl (a_add (by omega))) ?_
      refine Ops.q (q_asg rfl) ?_
      refine Ops.to rfl ?_
      refine Cd.seq ?_
      refine Cd.region ?_
      obtain ⟨v, hv⟩ : ∃ v : Nat, 1 + nb % 10 = (v : Int) := ⟨(1 + nb % 10).toNat, by omega⟩
      rw [hv]
      have hv10 : 1 ≤ v ∧ v ≤ 10 := by omega
      refine Ops.q (q_asg rfl) ?_
      refine Ops.to rfl ?_
      refine Cd.seq ?_
      refine Cd.seq ?_
      refine Cd.region ?_
      refine Ops.q (q_mv rfl) ?_
      refine Ops.q (q_len esz_80 rfl) ?_
      refine Ops.q (q_mv rfl) ?_
      refine Ops.to rfl ?_
      refine Cd.block ?_
      refine Cd.lp (σ := Nat × Option Addr × Nat) (fun s => s.1 ≤ es.length) (fun s => [(2, .slice xa xs.length xc), (3, .slice ua us.length uc), (9, .int .i64 (v : Int)), (48, .slice ea0 es.length ec0), (49, .int .i64 (es.length : Int)), (10, .slice s.2.1 s.1 s.2.2), (50, .int .i64 (s.1 : Int))]) (fun s => [row s.2.1 s.2.2 82 3 s.1 (((es.take s.1).map (mkE v)).flatMap eEdge)]) (fun s => es.length - s.1) (0, none, 0) (Nat.zero_le _) ⟨rfl, rfl, rfl, rfl, rfl, rfl, rfl, trivial⟩ (fun _ hs => hs.nilRow 82 3) ?_
      rintro ⟨k, ga, gc⟩ hI
      dsimp only at hI
      change Cd _ _ _ _ _ _ _ [(2, .slice xa xs.length xc), (3, .slice ua us.length uc), (9, .int .i64 (v : Int)), (48, .slice ea0 es.length ec0), (49, .int .i64 (es.length : Int)), (10, .slice ga k gc), (50, .int .i64 (k : Int))] ([row ga gc 82 3 k (((es.take k).map (mkE v)).flatMap eEdge)])
      refine Cd.seq ?_
      refine Cd.region ?_
      by_cases hk : (k : Int) < (es.length : Int)
      · refine Ops.q (q_cmp rfl rfl (c_lt hk)) ?_
        obtain ⟨x3, hx4⟩ : ∃ x, es[k]? = some x := ⟨_, List.getElem?_eq_getElem (by omega)⟩
        obtain ⟨ab5, ao6, rfl⟩ := RoL.pos hE eEdge_len hx4
        have hmsrc := Int.emod_nonneg (uW x3.src) (show (v : Int) ≠ 0 by omega)
        have hnsrc := Int.emod_lt_of_pos (uW x3.src) (show (0 : Int) < v by omega)
        have hmdst := Int.emod_nonneg (uW x3.dst) (show (v : Int) ≠ 0 by omega)
        have hndst := Int.emod_lt_of_pos (uW x3.dst) (show (0 : Int) < v by omega)
        have hu3 := uW_0 x3.len
        refine Ops.to rfl ?_
        refine Cd.seq ?_
        refine Cd.cond_t rfl ?_
        refine Cd.skipTo rfl ?_
        refine Cd.seq ?_
        refine Cd.block ?_
        refine Cd.seq ?_
        refine Cd.region ?_
        refine Ops.q (q_ix (k := k) esz_80 rfl rfl (by omega)) ?_
        refine Ops.q (q_ldRN [.int .i64 x3.src, .int .i64 x3.dst, .int .i64 x3.len] isA_82 sz_82 rfl (fun j u hu => hE.at eEdge_len hx4 hu)) ?_
        refine Ops.alc [.int .i64 0, .int .i64 0, .int .i64 0] zc_82 ?_
        intro b7
        refine Ops.stB [.int .i64 x3.src, .int .i64 x3.dst, .int .i64 x3.len] [.int .i64 x3.src, .int .i64 x3.dst, .int .i64 x3.len] sz_82 rfl rfl rfl (one rfl) .here rfl rfl ?_
        refine Ops.to rfl ?_
        refine Cd.draw rfl (by kernel_rfl) (.cons .here .nil) ?_
        intro F8 St9 hP10 hF11 hR12
        refine Dr.q (i := 0) hP10 rfl (by kernel_rfl) (q_mv rfl) ?_
        refine Dr.q (i := 1) hP10 rfl (by kernel_rfl) (q_fa fo_82_0 rfl) ?_
        refine Dr.q (i := 2) hP10 rfl (by kernel_rfl) (q_ldB isA_3 rfl .here rfl) ?_
        refine Dr.q (i := 3) hP10 rfl (by kernel_rfl) (q_conv iK_3 iK_83 rfl (rfl)) ?_
        refine Dr.q (i := 4) hP10 rfl (by kernel_rfl) (q_mv rfl) ?_
        refine Dr.q (i := 5) hP10 rfl (by kernel_rfl) (q_conv iK_3 iK_83 rfl (u64_in (by omega))) ?_
        refine Dr.q (i := 6) hP10 rfl (by kernel_rfl) (q_ar (v := uW x3.src % (v : Int)) rfl rfl (a_remU (uW_0 _) (by omega))) ?_
        refine Dr.q (i := 7) hP10 rfl (by kernel_rfl) (q_conv iK_83 iK_3 rfl (IntWalk.i64_in _ (by omega))) ?_
        refine Dr.q (i := 8) hP10 rfl (by kernel_rfl) (q_fa fo_82_1 rfl) ?_
        refine Dr.q (i := 9) hP10 rfl (by kernel_rfl) (q_ldB isA_3 rfl .here rfl) ?_
        refine Dr.q (i := 10) hP10 rfl (by kernel_rfl) (q_conv iK_3 iK_83 rfl (rfl)) ?_
        refine Dr.q (i := 11) hP10 rfl (by kernel_rfl) (q_mv rfl) ?_
        refine Dr.q (i := 12) hP10 rfl (by kernel_rfl) (q_conv iK_3 iK_83 rfl (u64_in (by omega))) ?_
        refine Dr.q (i := 13) hP10 rfl (by kernel_rfl) (q_ar (v := uW x3.dst % (v : Int)) rfl rfl (a_remU (uW_0 _) (by omega))) ?_
        refine Dr.q (i := 14) hP10 rfl (by kernel_rfl) (q_conv iK_83 iK_3 rfl (IntWalk.i64_in _ (by omega))) ?_
        refine Dr.q (i := 15) hP10 rfl (by kernel_rfl) (q_fa fo_82_2 rfl) ?_
        refine Dr.q (i := 16) hP10 rfl (by kernel_rfl) (q_ldB isA_3 rfl .here rfl) ?_
        refine Dr.q (i := 17) hP10 rfl (by kernel_rfl) (q_conv iK_3 iK_83 rfl (rfl)) ?_
        refine Dr.q (i := 18) hP10 rfl (by kernel_rfl) (q_ar (v := uW x3.len % 16) rfl rfl (a_remU (uW_0 _) (by omega))) ?_
        refine Dr.q (i := 19) hP10 rfl (by kernel_rfl) (q_conv iK_83 iK_3 rfl (IntWalk.i64_in _ (by omega))) ?_
        refine Dr.q (i := 20) hP10 rfl (by kernel_rfl) (q_ar rfl rfl (a_add (by omega))) ?_
        refine Dr.q (i := 21) hP10 rfl (by kernel_rfl) (q_bld [.int .i64 (uW x3.src % (v : Int)), .int .i64 (uW x3.dst % (v : Int)), .int .i64 (1 + (uW x3.len % 16))] pls_82 zc_82 rfl rfl) ?_
        refine Dr.e (i := 22) rfl (by kernel_rfl) ?_
        refine Ops.lit [.int .i64 (uW x3.src % (v : Int)), .int .i64 (uW x3.dst % (v : Int)), .int .i64 (1 + (uW x3.len % 16))] el_80 zsb_82 rfl rfl ⟨by decide, by decide⟩ rfl ?_
        intro b13
        refine Dr.back (fun _ hs => hF11 (.there .here) hs) ?_
        refine Dr.e (i := 23) rfl (by kernel_rfl) ?_
        refine Ops.app (news := [.int .i64 (uW x3.src % (v : Int)), .int .i64 (uW x3.dst % (v : Int)), .int .i64 (1 + (uW x3.len % 16))]) el_80 zsb_82 (by decide) rfl rfl (fun _ hs => hs.ownRo .here) (fun _ hs => (hs.pull .here).drop) (fun _ _ => (.there .here)) rfl (one rfl) (by omega) (by omega) ?_
        intro a14 c15
        refine Dr.back (fun _ hs => hF11 .here hs) ?_
        refine Dr.tail 24 (by kernel_rfl) ?_
        refine Ops.sat ?_ (fun _ hs => hR12 .here hs)
        refine Ops.q (q_asg rfl) ?_
        refine Ops.to rfl ?_
        refine Cd.region ?_
        refine Ops.q (q_ar rfl rfl (a_inc (by omega))) ?_
        refine Ops.q (q_mv rfl) ?_
        refine Ops.rnd ((k + 1, a14, c15)) rfl (by dsimp only; exact (by omega)) (by dsimp only; omega) ⟨rfl, rfl, rfl, rfl, rfl, rfl, rfl, trivial⟩ (fun _ hs => by have h1 := ((hs.pull (.there .here)).pull (.there .here)).drop; (try dsimp only); rw [List.take_add_one, hx4, List.map_append, fm_app]; exact h1) 
      · refine Ops.q (q_cmp rfl rfl (c_nlt (by omega))) ?_
        have hk9 : k = es.length := by omega
        rw [hk9, List.take_length]
        obtain ⟨g, hgE⟩ : ∃ g, g = mkG v es := ⟨_, rfl⟩
        rw [show List.map (mkE v) es = g from hgE.symm, show es.length = g.length from by rw [hgE]; unfold mkG; simp]
        have hgl : g.length = es.length := by rw [hgE]; unfold mkG; simp
        have hG : GOK g 0 v := by rw [hgE]; exact mkG_ok (by omega) (by omega) (by omega)
        have hA := aut_made (q := 4) (n := 2) (s0 := 0) (xs := xs) (us := us) (acc := accL 5 4) (by omega) (by omega) (by omega) (fun x hx => (hb x hx).1) (accL_len ..) (fun x hx => (hbu x hx).1)
        have hWl := wdL_len 2 us
        have hNl : (mdNx 4 2 xs 4).length = 4 := mdNx_len ..
        have hAl : (accL 5 4).length = 4 := accL_len ..
        have hJ : JOK g v (mdNx 4 2 xs 4) ((0 : Nat) : Int) (accL 5 4) (wdL 2 us) 2 := ⟨hG, hA, by omega, by omega, by omega, by omega⟩
        have hevl := evA_len (ws := (wdL 2 us)) (k := 2)
        refine Ops.to rfl ?_
        refine Cd.seq ?_
        refine Cd.cond_f rfl ?_
        refine Cd.exitTo rfl ?_
        refine Cd.seq ?_
        refine Cd.region ?_
        refine Ops.q (q_mv rfl) ?_
        refine Ops.cl (α := AutoX (mdNx 4 2 xs 4)) (v := fun r => .agg [.slice r.1.1.1 4 r.1.1.2, .int .i64 ((0 : Nat) : Int), .slice r.1.2.2.1 4 r.1.2.2.2].toArray) (B := fun r => [rd (fun w => RoLL w r.1.1.1 r.1.2.1 ∧ RoL w r.1.2.2.1 eBool (accL 5 4))]) en_40 rfl (fun w hs => made_c 3 1 5 0 4 2 0 _ _ xs w (hX.later hs.below) hb (by decide) (by decide) (by decide) (by decide) (by decide) (by decide)) ?_
        rintro ⟨⟨⟨na, nc⟩, lz, ⟨aa, ac⟩⟩, hz⟩
        have hlq : lz.length = 4 := len_of_map hz (mdNx_len ..)
        obtain ⟨⟨⟨r0a, r0c⟩, r0⟩, hl0⟩ : ∃ x, lz[0]? = some x := ⟨_, List.getElem?_eq_getElem (by omega)⟩
        have hr0n : r0.length = 2 := hA.row _ (List.mem_iff_getElem?.2 ⟨0, get_of_map hz hl0⟩)
        refine Ops.ropos (a := na) (cs := lz.flatMap eNL) (.here) (fun w h => h.1.1) (fm_pos eNL_len hl0) ?_
        rintro nb2 no rfl
        refine Ops.alc [.slice none 0 0, .int .i64 0, .slice none 0 0] zc_36 ?_
        intro b16
        refine Ops.stB [.slice (some ⟨nb2, no, none⟩) 4 nc, .int .i64 ((0 : Nat) : Int), .slice aa 4 ac] [.slice (some ⟨nb2, no, none⟩) 4 nc, .int .i64 ((0 : Nat) : Int), .slice aa 4 ac] sz_36 rfl rfl rfl (one rfl) .here rfl rfl ?_
        refine Ops.to rfl ?_
        refine Cd.seq ?_
        refine Cd.region ?_
        refine Ops.q (q_asg rfl) ?_
        refine Ops.to rfl ?_
        refine Cd.seq ?_
        refine Cd.seq ?_
        refine Cd.region ?_
        refine Ops.q (q_mv rfl) ?_
        refine Ops.q (q_len esz_92 rfl) ?_
        refine Ops.q (q_mv rfl) ?_
        refine Ops.to rfl ?_
        refine Cd.block ?_
        refine Cd.lp (σ := Nat × Option Addr × Nat) (fun s => s.1 ≤ us.length) (fun s => [(9, .int .i64 (v : Int)), (10, .slice ga g.length gc), (13, .pointer (some ⟨b16, 0, none⟩)), (81, .slice ua us.length uc), (82, .int .i64 (us.length : Int)), (14, .slice s.2.1 s.1 s.2.2), (83, .int .i64 (s.1 : Int))]) (fun s => [row s.2.1 s.2.2 3 1 s.1 (((wdL 2 us).take s.1).flatMap eInt), blk b16 36 [.slice (some ⟨nb2, no, none⟩) 4 nc, .int .i64 ((0 : Nat) : Int), .slice aa 4 ac], rd (fun w => RoLL w (some ⟨nb2, no, none⟩) lz ∧ RoL w aa eBool (accL 5 4)), row ga gc 82 3 g.length (g.flatMap eEdge)]) (fun s => us.length - s.1) (0, none, 0) (Nat.zero_le _) ⟨rfl, rfl, rfl, rfl, rfl, rfl, rfl, trivial⟩ (fun _ hs => by have h1 := ((((hs.pull (.there (.there .here))).pull (.there (.there .here))).pull (.there (.there .here)))).nilRow 3 1; exact h1) ?_
        rintro ⟨k, wa, wc⟩ hI
        dsimp only at hI
        change Cd _ _ _ _ _ _ _ [(9, .int .i64 (v : Int)), (10, .slice ga g.length gc), (13, .pointer (some ⟨b16, 0, none⟩)), (81, .slice ua us.length uc), (82, .int .i64 (us.length : Int)), (14, .slice wa k wc), (83, .int .i64 (k : Int))] ([row wa wc 3 1 k (((wdL 2 us).take k).flatMap eInt), blk b16 36 [.slice (some ⟨nb2, no, none⟩) 4 nc, .int .i64 ((0 : Nat) : Int), .slice aa 4 ac], rd (fun w => RoLL w (some ⟨nb2, no, none⟩) lz ∧ RoL w aa eBool (accL 5 4)), row ga gc 82 3 g.length (g.flatMap eEdge)])
        refine Cd.seq ?_
        refine Cd.region ?_
        by_cases hk : (k : Int) < (us.length : Int)
        · refine Ops.q (q_cmp rfl rfl (c_lt hk)) ?_
          obtain ⟨x, hx⟩ : ∃ x, us[k]? = some x := ⟨_, List.getElem?_eq_getElem (by omega)⟩
          have hxb := hbu x (List.mem_iff_getElem?.2 ⟨k, hx⟩)
          obtain ⟨u, rfl⟩ : ∃ u : Nat, x = (u : Int) := ⟨x.toNat, by omega⟩
          obtain ⟨ub, uo, rfl⟩ := RoL.pos hU eU8_len hx
          have hWk : (wdL 2 us)[k]? = some ((u % 2 : Nat) : Int) := by unfold wdL; rw [List.getElem?_map, hx]; rfl
          refine Ops.to rfl ?_
          refine Cd.seq ?_
          refine Cd.cond_t rfl ?_
          refine Cd.skipTo rfl ?_
          refine Cd.seq ?_
          refine Cd.block ?_
          refine Cd.seq ?_
          refine Cd.region ?_
          refine Ops.q (q_ix (k := k) esz_92 rfl rfl (by omega)) ?_
          refine Ops.q (q_ldR isA_5 rfl (hU.at0 eU8_len hx rfl)) ?_
          refine Ops.q (q_asg rfl) ?_
          refine Ops.to rfl ?_
          refine Cd.region ?_
          refine Ops.q (q_mv rfl) ?_
          refine Ops.q (q_mv rfl) ?_
          refine Ops.q (q_conv iK_5 iK_3 rfl (IntWalk.i64_in _ (by omega))) ?_
          refine Ops.q (q_fa fo_36_0 rfl) ?_
          refine Ops.q (q_ldB isA_22 rfl (.there .here) rfl) ?_
          refine Ops.q (q_ix (k := 0) esz_22 rfl rfl (by omega)) ?_
          refine Ops.q (q_ld (v := .slice r0a 2 r0c) isA_26 rfl (fun w hs => RoL.at0 ((hs.read (.there (.there .here))).1.1) eNL_len hl0 (by rw [← hr0n]; rfl))) ?_
          refine Ops.q (q_len esz_26 rfl) ?_
          refine Ops.q (q_ar (v := ((u % 2 : Nat) : Int)) rfl rfl (a_remN (by decide))) ?_
          refine Ops.lit [.int .i64 ((u % 2 : Nat) : Int)] el_26 zsb_3 rfl rfl ⟨by decide, by decide⟩ rfl ?_
          intro b17
          refine Ops.app (news := [.int .i64 ((u % 2 : Nat) : Int)]) el_26 zsb_3 (by decide) rfl rfl (fun _ hs => hs.ownRo .here) (fun _ hs => (hs.pull .here).drop) (fun _ _ => .here) rfl (one rfl) (by omega) (by omega) ?_
          intro a18 c19
          refine Ops.q (q_asg rfl) ?_
          refine Ops.to rfl ?_
          refine Cd.region ?_
          refine Ops.q (q_ar rfl rfl (a_inc (by omega))) ?_
          refine Ops.q (q_mv rfl) ?_
          refine Ops.rnd ((k + 1, a18, c19)) rfl (by dsimp only; exact (by omega)) (by dsimp only; omega) ⟨rfl, rfl, rfl, rfl, rfl, rfl, rfl, trivial⟩ (fun _ hs => by have h1 := ((((hs.pull (.there (.there (.there .here)))).pull (.there (.there (.there .here)))).pull (.there (.there (.there .here)))).pull (.there (.there (.there .here)))); (try dsimp only); rw [List.take_add_one, hWk, fm_app]; exact h1) 
        · refine Ops.q (q_cmp rfl rfl (c_nlt (by omega))) ?_
          have hk9 : k = (wdL 2 us).length := by omega
          rw [hk9, List.take_length]
          refine Ops.to rfl ?_
          refine Cd.seq ?_
          refine Cd.cond_f rfl ?_
          refine Cd.exitTo rfl ?_
          refine Cd.seq ?_
          refine Cd.region ?_
          refine Ops.q (q_mv rfl) ?_
          refine Ops.q (q_mv rfl) ?_
          refine Ops.cl (α := (Option Addr × Nat) × (Option Addr × Nat)) (v := fun x => .tuple [.agg [.slice x.1.1 (pathN g 0 v).ns.length x.1.2, .int .i64 (pathN g 0 v).inp, .slice x.2.1 (pathN g 0 v).ss.length x.2.2].toArray, .int .i64 0].toArray) (B := fun x => [row x.1.1 x.1.2 116 8 (pathN g 0 v).ns.length ((pathN g 0 v).ns.flatMap ePrm), row x.2.1 x.2.2 126 4 (pathN g 0 v).ss.length ((pathN g 0 v).ss.flatMap eSyn)]) en_34 rfl (fun w hs => retR_ok (paths_c _ _ _ g _ w (hs.ownRo (.there (.there (.there .here))))) hG.paths_ok) ?_
          rintro ⟨⟨p, pc⟩, ⟨ps, psc⟩⟩
          refine Ops.q (q_mv rfl) ?_
          refine Ops.q (q_ext rfl rfl) ?_
          refine Ops.q (q_ext rfl rfl) ?_
          refine Ops.alc [.slice none 0 0, .int .i64 0, .slice none 0 0] zc_32 ?_
          intro b20
          refine Ops.stB [.slice p ((pathN g 0 v).ns.length) pc, .int .i64 ((pathN g 0 v).inp), .slice ps ((pathN g 0 v).ss.length) psc] [.slice p ((pathN g 0 v).ns.length) pc, .int .i64 ((pathN g 0 v).inp), .slice ps ((pathN g 0 v).ss.length) psc] sz_32 rfl rfl rfl (one rfl) .here rfl rfl ?_
          refine Ops.q (q_asg rfl) ?_
          refine Ops.to rfl ?_
          refine Cd.seq ?_
          refine Cd.region ?_
          refine Ops.q (q_ldBN [.slice (some ⟨nb2, no, none⟩) 4 nc, .int .i64 ((0 : Nat) : Int), .slice aa 4 ac] isA_36 sz_36 rfl (.there (.there (.there (.there .here)))) rfl) ?_
          refine Ops.cl (α := (Option Addr × Nat) × (Option Addr × Nat)) (v := fun x => .tuple [.agg [.slice x.1.1 (autN (mdNx 4 2 xs 4) ((0 : Nat) : Int) (accL 5 4) 2).ns.length x.1.2, .int .i64 (autN (mdNx 4 2 xs 4) ((0 : Nat) : Int) (accL 5 4) 2).inp, .slice x.2.1 (autN (mdNx 4 2 xs 4) ((0 : Nat) : Int) (accL 5 4) 2).ss.length x.2.2].toArray, .int .i64 0].toArray) (B := fun x => [row x.1.1 x.1.2 116 8 (autN (mdNx 4 2 xs 4) ((0 : Nat) : Int) (accL 5 4) 2).ns.length ((autN (mdNx 4 2 xs 4) ((0 : Nat) : Int) (accL 5 4) 2).ns.flatMap ePrm), row x.2.1 x.2.2 126 4 (autN (mdNx 4 2 xs 4) ((0 : Nat) : Int) (accL 5 4) 2).ss.length ((autN (mdNx 4 2 xs 4) ((0 : Nat) : Int) (accL 5 4) 2).ss.flatMap eSyn)]) en_14 rfl (fun w hs => machine_q hz hlq hAl hA.machine_ok (hs.read (.there (.there (.there (.there (.there .here))))))) ?_
          rintro ⟨⟨m, mc⟩, ⟨ms, msc⟩⟩
          refine Ops.q (q_mv rfl) ?_
          refine Ops.q (q_ext rfl rfl) ?_
          refine Ops.q (q_ext rfl rfl) ?_
          refine Ops.alc [.slice none 0 0, .int .i64 0, .slice none 0 0] zc_32 ?_
          intro b21
          refine Ops.stB [.slice m ((autN (mdNx 4 2 xs 4) ((0 : Nat) : Int) (accL 5 4) 2).ns.length) mc, .int .i64 ((autN (mdNx 4 2 xs 4) ((0 : Nat) : Int) (accL 5 4) 2).inp), .slice ms ((autN (mdNx 4 2 xs 4) ((0 : Nat) : Int) (accL 5 4) 2).ss.length) msc] [.slice m ((autN (mdNx 4 2 xs 4) ((0 : Nat) : Int) (accL 5 4) 2).ns.length) mc, .int .i64 ((autN (mdNx 4 2 xs 4) ((0 : Nat) : Int) (accL 5 4) 2).inp), .slice ms ((autN (mdNx 4 2 xs 4) ((0 : Nat) : Int) (accL 5 4) 2).ss.length) msc] sz_32 rfl rfl rfl (one rfl) .here rfl rfl ?_
          refine Ops.q (q_asg rfl) ?_
          refine Ops.to rfl ?_
          refine Cd.seq ?_
          refine Cd.region ?_
          refine Ops.q (q_ldBN [.slice (some ⟨nb2, no, none⟩) 4 nc, .int .i64 ((0 : Nat) : Int), .slice aa 4 ac] isA_36 sz_36 rfl (.there (.there (.there (.there (.there (.there (.there .here))))))) rfl) ?_
          refine Ops.q (q_mv rfl) ?_
          refine Ops.cl (α := Option Addr × Nat) (v := fun x => Value.tuple [Value.slice x.1 (evA (wdL 2 us) 2).length x.2, Value.int IntKind.i64 0].toArray) (B := fun x => [row x.1 x.2 88 2 (evA (wdL 2 us) 2).length ((evA (wdL 2 us) 2).flatMap eEvt)]) en_18 rfl (fun w hs => word_q hz hlq (by have h9 := hA.word_ok (by omega); rwa [hAl] at h9) (hs.read (.there (.there (.there (.there (.there (.there (.there (.there .here))))))))).1 (hs.ownRo (.there (.there (.there (.there (.there (.there .here)))))))) ?_
          rintro ⟨ev, evc⟩
          refine Ops.q (q_mv rfl) ?_
          refine Ops.q (q_ext rfl rfl) ?_
          refine Ops.q (q_ext rfl rfl) ?_
          refine Ops.q (q_asg rfl) ?_
          refine Ops.q (q_asg rfl) ?_
          refine Ops.to rfl ?_
          refine Cd.seq ?_
          refine Cd.region ?_
          refine Ops.q (q_ldBN [.slice p ((pathN g 0 v).ns.length) pc, .int .i64 ((pathN g 0 v).inp), .slice ps ((pathN g 0 v).ss.length) psc] isA_32 sz_32 rfl (.there (.there (.there (.there .here)))) rfl) ?_
          refine Ops.q (q_ldBN [.slice m ((autN (mdNx 4 2 xs 4) ((0 : Nat) : Int) (accL 5 4) 2).ns.length) mc, .int .i64 ((autN (mdNx 4 2 xs 4) ((0 : Nat) : Int) (accL 5 4) 2).inp), .slice ms ((autN (mdNx 4 2 xs 4) ((0 : Nat) : Int) (accL 5 4) 2).ss.length) msc] isA_32 sz_32 rfl (.there .here) rfl) ?_
          refine Ops.cl (α := (Option Addr × Nat) × (Option Addr × Nat)) (v := fun x => .tuple [.agg [.slice x.1.1 (jN g v (mdNx 4 2 xs 4) ((0 : Nat) : Int) (accL 5 4) 2).ns.length x.1.2, .int .i64 (jN g v (mdNx 4 2 xs 4) ((0 : Nat) : Int) (accL 5 4) 2).inp, .slice x.2.1 (jN g v (mdNx 4 2 xs 4) ((0 : Nat) : Int) (accL 5 4) 2).ss.length x.2.2].toArray, .int .i64 0].toArray) (B := fun x => [row x.1.1 x.1.2 116 8 (jN g v (mdNx 4 2 xs 4) ((0 : Nat) : Int) (accL 5 4) 2).ns.length ((jN g v (mdNx 4 2 xs 4) ((0 : Nat) : Int) (accL 5 4) 2).ns.flatMap ePrm), row x.2.1 x.2.2 126 4 (jN g v (mdNx 4 2 xs 4) ((0 : Nat) : Int) (accL 5 4) 2).ss.length ((jN g v (mdNx 4 2 xs 4) ((0 : Nat) : Int) (accL 5 4) 2).ss.flatMap eSyn)]) en_45 rfl (fun w hs => join_q hJ (hs.ownRo (.there (.there (.there (.there (.there .here)))))) (hs.ownRo (.there (.there (.there (.there (.there (.there .here))))))) (hs.ownRo (.there (.there .here))) (hs.ownRo (.there (.there (.there .here))))) ?_
          rintro ⟨⟨jn, jnc⟩, ⟨jns, jnsc⟩⟩
          refine Ops.q (q_mv rfl) ?_
          refine Ops.q (q_ext rfl rfl) ?_
          refine Ops.q (q_ext rfl rfl) ?_
          refine Ops.alc [.slice none 0 0, .int .i64 0, .slice none 0 0] zc_32 ?_
          intro b22
          refine Ops.stB [.slice jn ((jN g v (mdNx 4 2 xs 4) ((0 : Nat) : Int) (accL 5 4) 2).ns.length) jnc, .int .i64 ((jN g v (mdNx 4 2 xs 4) ((0 : Nat) : Int) (accL 5 4) 2).inp), .slice jns ((jN g v (mdNx 4 2 xs 4) ((0 : Nat) : Int) (accL 5 4) 2).ss.length) jnsc] [.slice jn ((jN g v (mdNx 4 2 xs 4) ((0 : Nat) : Int) (accL 5 4) 2).ns.length) jnc, .int .i64 ((jN g v (mdNx 4 2 xs 4) ((0 : Nat) : Int) (accL 5 4) 2).inp), .slice jns ((jN g v (mdNx 4 2 xs 4) ((0 : Nat) : Int) (accL 5 4) 2).ss.length) jnsc] sz_32 rfl rfl rfl (one rfl) .here rfl rfl ?_
          refine Ops.q (q_asg rfl) ?_
          refine Ops.to rfl ?_
          refine Cd.seq ?_
          refine Cd.seq ?_
          refine Cd.region ?_
          refine Ops.q (q_mv rfl) ?_
          refine Ops.q (q_cmp rfl rfl (c_nne (by decide))) ?_
          refine Ops.q (q_mv rfl) ?_
          refine Ops.q (q_mv rfl) ?_
          refine Ops.q (q_cmp rfl rfl (c_nne (by decide))) ?_
          refine Ops.q (q_pickF rfl rfl) ?_
          refine Ops.q (q_mv rfl) ?_
          refine Ops.q (q_mv rfl) ?_
          refine Ops.q (q_cmp rfl rfl (c_nne (by decide))) ?_
          refine Ops.q (q_pickF rfl rfl) ?_
          refine Ops.q (q_mv rfl) ?_
          refine Ops.q (q_mv rfl) ?_
          refine Ops.q (q_cmp rfl rfl (c_nne (by decide))) ?_
          refine Ops.q (q_pickF rfl rfl) ?_
          refine Ops.to rfl ?_
          refine Cd.cond_f rfl ?_
          refine Cd.skipTo rfl ?_
          refine Cd.seq ?_
          refine Cd.region ?_
          refine Ops.q (q_asg rfl) ?_
          refine Ops.to rfl ?_
          refine Cd.seq ?_
          refine Cd.seq ?_
          refine Cd.region ?_
          refine Ops.q (q_mv rfl) ?_
          refine Ops.q (q_len esz_27 rfl) ?_
          refine Ops.q (q_mv rfl) ?_
          refine Ops.to rfl ?_
          refine Cd.block ?_
          refine Cd.lp (σ := Nat × Option Addr × Nat) (fun s => s.1 ≤ (evA (wdL 2 us) 2).length) (fun s => [(9, .int .i64 (v : Int)), (17, .pointer (some ⟨b20, 0, none⟩)), (19, .pointer (some ⟨b21, 0, none⟩)), (21, .slice ev ((evA (wdL 2 us) 2).length) evc), (23, .pointer (some ⟨b22, 0, none⟩)), (136, .slice ev ((evA (wdL 2 us) 2).length) evc), (137, .int .i64 ((evA (wdL 2 us) 2).length : Int)), (25, .slice s.2.1 ((allL (evA (wdL 2 us) 2) s.1).length) s.2.2), (138, .int .i64 (s.1 : Int))]) (fun s => [row s.2.1 s.2.2 88 2 ((allL (evA (wdL 2 us) 2) s.1).length) ((allL (evA (wdL 2 us) 2) s.1).flatMap eEvt), row ev evc 88 2 ((evA (wdL 2 us) 2).length) ((evA (wdL 2 us) 2).flatMap eEvt), blk b20 32 [.slice p ((pathN g 0 v).ns.length) pc, .int .i64 ((pathN g 0 v).inp), .slice ps ((pathN g 0 v).ss.length) psc], row p pc 116 8 ((pathN g 0 v).ns.length) ((pathN g 0 v).ns.flatMap ePrm), row ps psc 126 4 ((pathN g 0 v).ss.length) ((pathN g 0 v).ss.flatMap eSyn), blk b21 32 [.slice m ((autN (mdNx 4 2 xs 4) ((0 : Nat) : Int) (accL 5 4) 2).ns.length) mc, .int .i64 ((autN (mdNx 4 2 xs 4) ((0 : Nat) : Int) (accL 5 4) 2).inp), .slice ms ((autN (mdNx 4 2 xs 4) ((0 : Nat) : Int) (accL 5 4) 2).ss.length) msc], row m mc 116 8 ((autN (mdNx 4 2 xs 4) ((0 : Nat) : Int) (accL 5 4) 2).ns.length) ((autN (mdNx 4 2 xs 4) ((0 : Nat) : Int) (accL 5 4) 2).ns.flatMap ePrm), row ms msc 126 4 ((autN (mdNx 4 2 xs 4) ((0 : Nat) : Int) (accL 5 4) 2).ss.length) ((autN (mdNx 4 2 xs 4) ((0 : Nat) : Int) (accL 5 4) 2).ss.flatMap eSyn), blk b22 32 [.slice jn ((jN g v (mdNx 4 2 xs 4) ((0 : Nat) : Int) (accL 5 4) 2).ns.length) jnc, .int .i64 ((jN g v (mdNx 4 2 xs 4) ((0 : Nat) : Int) (accL 5 4) 2).inp), .slice jns ((jN g v (mdNx 4 2 xs 4) ((0 : Nat) : Int) (accL 5 4) 2).ss.length) jnsc], row jn jnc 116 8 ((jN g v (mdNx 4 2 xs 4) ((0 : Nat) : Int) (accL 5 4) 2).ns.length) ((jN g v (mdNx 4 2 xs 4) ((0 : Nat) : Int) (accL 5 4) 2).ns.flatMap ePrm), row jns jnsc 126 4 ((jN g v (mdNx 4 2 xs 4) ((0 : Nat) : Int) (accL 5 4) 2).ss.length) ((jN g v (mdNx 4 2 xs 4) ((0 : Nat) : Int) (accL 5 4) 2).ss.flatMap eSyn)]) (fun s => (evA (wdL 2 us) 2).length - s.1) (0, none, 0) (Nat.zero_le _) ⟨rfl, rfl, rfl, rfl, rfl, rfl, rfl, rfl, rfl, trivial⟩ (fun _ hs => by have h1 := (((((((((((((((hs.pull (.there (.there .here))).pull (.there (.there .here))).pull (.there (.there .here))).pull (.there (.there (.there (.there (.there (.there .here))))))).pull (.there (.there (.there (.there (.there (.there .here))))))).pull (.there (.there (.there (.there (.there (.there .here))))))).pull (.there (.there (.there (.there (.there (.there (.there (.there (.there .here)))))))))).pull (.there (.there (.there (.there (.there (.there (.there (.there (.there .here)))))))))).pull (.there (.there (.there (.there (.there (.there (.there (.there (.there .here)))))))))).pull (.there (.there (.there (.there (.there (.there (.there (.there (.there .here)))))))))).pull (.there (.there (.there (.there (.there (.there (.there (.there (.there (.there .here))))))))))).drop.pull (.there (.there (.there (.there (.there (.there (.there (.there (.there (.there .here))))))))))).drop.pull (.there (.there (.there (.there (.there (.there (.there (.there (.there (.there .here))))))))))).drop.pull (.there (.there (.there (.there (.there (.there (.there (.there (.there (.there .here))))))))))).drop).nilRow 88 2; exact h1) ?_
          rintro ⟨k, la, lc⟩ hI
          dsimp only at hI
          change Cd _ _ _ _ _ _ _ [(9, .int .i64 (v : Int)), (17, .pointer (some ⟨b20, 0, none⟩)), (19, .pointer (some ⟨b21, 0, none⟩)), (21, .slice ev ((evA (wdL 2 us) 2).length) evc), (23, .pointer (some ⟨b22, 0, none⟩)), (136, .slice ev ((evA (wdL 2 us) 2).length) evc), (137, .int .i64 ((evA (wdL 2 us) 2).length : Int)), (25, .slice la ((allL (evA (wdL 2 us) 2) k).length) lc), (138, .int .i64 (k : Int))] ([row la lc 88 2 ((allL (evA (wdL 2 us) 2) k).length) ((allL (evA (wdL 2 us) 2) k).flatMap eEvt), row ev evc 88 2 ((evA (wdL 2 us) 2).length) ((evA (wdL 2 us) 2).flatMap eEvt), blk b20 32 [.slice p ((pathN g 0 v).ns.length) pc, .int .i64 ((pathN g 0 v).inp), .slice ps ((pathN g 0 v).ss.length) psc], row p pc 116 8 ((pathN g 0 v).ns.length) ((pathN g 0 v).ns.flatMap ePrm), row ps psc 126 4 ((pathN g 0 v).ss.length) ((pathN g 0 v).ss.flatMap eSyn), blk b21 32 [.slice m ((autN (mdNx 4 2 xs 4) ((0 : Nat) : Int) (accL 5 4) 2).ns.length) mc, .int .i64 ((autN (mdNx 4 2 xs 4) ((0 : Nat) : Int) (accL 5 4) 2).inp), .slice ms ((autN (mdNx 4 2 xs 4) ((0 : Nat) : Int) (accL 5 4) 2).ss.length) msc], row m mc 116 8 ((autN (mdNx 4 2 xs 4) ((0 : Nat) : Int) (accL 5 4) 2).ns.length) ((autN (mdNx 4 2 xs 4) ((0 : Nat) : Int) (accL 5 4) 2).ns.flatMap ePrm), row ms msc 126 4 ((autN (mdNx 4 2 xs 4) ((0 : Nat) : Int) (accL 5 4) 2).ss.length) ((autN (mdNx 4 2 xs 4) ((0 : Nat) : Int) (accL 5 4) 2).ss.flatMap eSyn), blk b22 32 [.slice jn ((jN g v (mdNx 4 2 xs 4) ((0 : Nat) : Int) (accL 5 4) 2).ns.length) jnc, .int .i64 ((jN g v (mdNx 4 2 xs 4) ((0 : Nat) : Int) (accL 5 4) 2).inp), .slice jns ((jN g v (mdNx 4 2 xs 4) ((0 : Nat) : Int) (accL 5 4) 2).ss.length) jnsc], row jn jnc 116 8 ((jN g v (mdNx 4 2 xs 4) ((0 : Nat) : Int) (accL 5 4) 2).ns.length) ((jN g v (mdNx 4 2 xs 4) ((0 : Nat) : Int) (accL 5 4) 2).ns.flatMap ePrm), row jns jnsc 126 4 ((jN g v (mdNx 4 2 xs 4) ((0 : Nat) : Int) (accL 5 4) 2).ss.length) ((jN g v (mdNx 4 2 xs 4) ((0 : Nat) : Int) (accL 5 4) 2).ss.flatMap eSyn)])
          refine Cd.seq ?_
          refine Cd.region ?_
          by_cases hk : (k : Int) < ((evA (wdL 2 us) 2).length : Int)
          · refine Ops.q (q_cmp rfl rfl (c_lt hk)) ?_
            obtain ⟨⟨xt, xi⟩, hx⟩ : ∃ x, (evA (wdL 2 us) 2)[k]? = some x := ⟨_, List.getElem?_eq_getElem (by omega)⟩
            have hxi := evA_id hA (List.mem_iff_getElem?.2 ⟨k, hx⟩)
            dsimp only at hxi
            have hall := allL_len (evA (wdL 2 us) 2) k
            refine Ops.rowpos (.there .here) (by omega) ?_
            rintro eb rfl
            refine Ops.to rfl ?_
            refine Cd.seq ?_
            refine Cd.cond_t rfl ?_
            refine Cd.skipTo rfl ?_
            refine Cd.seq ?_
            refine Cd.block ?_
            refine Cd.seq ?_
            refine Cd.region ?_
            refine Ops.q (q_mv rfl) ?_
            refine Ops.q (q_ix (k := k) esz_27 rfl rfl (by omega)) ?_
            refine Ops.q (q_ldON [.int .i64 xt, .int .i64 xi] isA_88 sz_88 rfl (.there .here) (fm_atN eEvt_len hx)) ?_
            refine Ops.alc [.int .i64 0, .int .i64 0] zc_88 ?_
            intro b23
            refine Ops.q (q_asg rfl) ?_
            refine Ops.stB [.int .i64 xt, .int .i64 xi] [.int .i64 xt, .int .i64 xi] sz_88 rfl rfl rfl (one rfl) .here rfl rfl ?_
            refine Ops.to rfl ?_
            refine Cd.seq ?_
            refine Cd.seq ?_
            refine Cd.region ?_
            refine Ops.q (q_mv rfl) ?_
            by_cases hk0 : (k : Int) = 0
            · refine Ops.q (q_cmp rfl rfl (c_eq hk0)) ?_
              obtain rfl : k = 0 := by omega
              have hla : (allL (evA (wdL 2 us) 2) 0) = [] := rfl
              rw [hla, List.length_nil]
              refine Ops.to rfl ?_
              refine Cd.cond_t rfl ?_
              refine Cd.region ?_
              refine Ops.q (q_mv rfl) ?_
              refine Ops.cp en_39 rfl (fun w hs => at_c 0 0 w) ?_
              refine Ops.lit [.int .i64 0, .int .i64 0] el_27 zsb_88 rfl rfl ⟨by decide, by decide⟩ rfl ?_
              intro b24
              refine Ops.app (news := [.int .i64 0, .int .i64 0]) el_27 zsb_88 (by decide) rfl rfl (fun _ hs => hs.ownRo .here) (fun _ hs => (hs.pull .here).drop) (fun _ _ => (.there .here)) rfl (one rfl) (by omega) (by omega) ?_
              intro a25 c26
              refine Ops.q (q_asg rfl) ?_
              refine Ops.to rfl ?_
              refine Cd.region ?_
              refine Ops.q (q_mv rfl) ?_
              refine Ops.q (q_fa fo_88_0 rfl) ?_
              refine Ops.q (q_ldB isA_3 rfl .here rfl) ?_
              refine Ops.q (q_fa fo_88_1 rfl) ?_
              refine Ops.q (q_ldB isA_3 rfl .here rfl) ?_
              refine Ops.q (q_ar rfl rfl (a_add (by omega))) ?_
              refine Ops.cp en_39 rfl (fun w hs => at_c xt (xi + 1) w) ?_
              refine Ops.lit [.int .i64 xt, .int .i64 (xi + 1)] el_27 zsb_88 rfl rfl ⟨by decide, by decide⟩ rfl ?_
              intro b27
              refine Ops.app (news := [.int .i64 xt, .int .i64 (xi + 1)]) el_27 zsb_88 (by decide) rfl rfl (fun _ hs => hs.ownRo .here) (fun _ hs => (hs.pull .here).drop) (fun _ _ => (.there .here)) rfl (one rfl) (by omega) (by omega) ?_
              intro a28 c29
              refine Ops.q (q_asg rfl) ?_
              refine Ops.to rfl ?_
              refine Cd.region ?_
              refine Ops.q (q_ar rfl rfl (a_inc (by omega))) ?_
              refine Ops.q (q_mv rfl) ?_
              refine Ops.rnd ((1, a28, c29)) rfl (by dsimp only; exact (by omega)) (by dsimp only; omega) ⟨rfl, rfl, rfl, rfl, rfl, rfl, rfl, (by (try dsimp only); rw [allL_first hx]; rfl), rfl, trivial⟩ (fun _ hs => by have h1 := ((((((((((((hs.pull (.there (.there (.there (.there (.there (.there (.there (.there (.there (.there (.there .here)))))))))))).pull (.there (.there (.there (.there (.there (.there (.there (.there (.there (.there (.there .here)))))))))))).pull (.there (.there (.there (.there (.there (.there (.there (.there (.there (.there (.there .here)))))))))))).pull (.there (.there (.there (.there (.there (.there (.there (.there (.there (.there (.there .here)))))))))))).pull (.there (.there (.there (.there (.there (.there (.there (.there (.there (.there (.there .here)))))))))))).pull (.there (.there (.there (.there (.there (.there (.there (.there (.there (.there (.there .here)))))))))))).pull (.there (.there (.there (.there (.there (.there (.there (.there (.there (.there (.there .here)))))))))))).pull (.there (.there (.there (.there (.there (.there (.there (.there (.there (.there (.there .here)))))))))))).pull (.there (.there (.there (.there (.there (.there (.there (.there (.there (.there (.there .here)))))))))))).pull (.there (.there (.there (.there (.there (.there (.there (.there (.there (.there (.there .here)))))))))))).pull (.there (.there (.there (.there (.there (.there (.there (.there (.there (.there (.there .here)))))))))))).pull (.there (.there (.there (.there (.there (.there (.there (.there (.there (.there (.there .here)))))))))))).drop; (try dsimp only); rw [allL_first hx]; exact h1) 
            · refine Ops.q (q_cmp rfl rfl (c_neq hk0)) ?_
              refine Ops.to rfl ?_
              refine Cd.cond_f rfl ?_
              refine Cd.skipTo rfl ?_
              refine Cd.region ?_
              refine Ops.q (q_mv rfl) ?_
              refine Ops.q (q_fa fo_88_0 rfl) ?_
              refine Ops.q (q_ldB isA_3 rfl .here rfl) ?_
              refine Ops.q (q_fa fo_88_1 rfl) ?_
              refine Ops.q (q_ldB isA_3 rfl .here rfl) ?_
              refine Ops.q (q_ar rfl rfl (a_add (by omega))) ?_
              refine Ops.cp en_39 rfl (fun w hs => at_c xt (xi + 1) w) ?_
              refine Ops.lit [.int .i64 xt, .int .i64 (xi + 1)] el_27 zsb_88 rfl rfl ⟨by decide, by decide⟩ rfl ?_
              intro b30
              refine Ops.app (news := [.int .i64 xt, .int .i64 (xi + 1)]) el_27 zsb_88 (by decide) rfl rfl (fun _ hs => hs.ownRo .here) (fun _ hs => (hs.pull .here).drop) (fun _ _ => (.there .here)) rfl (one rfl) (by omega) (by omega) ?_
              intro a31 c32
              refine Ops.q (q_asg rfl) ?_
              refine Ops.to rfl ?_
              refine Cd.region ?_
              refine Ops.q (q_ar rfl rfl (a_inc (by omega))) ?_
              refine Ops.q (q_mv rfl) ?_
              refine Ops.rnd ((k + 1, a31, c32)) rfl (by dsimp only; exact (by omega)) (by dsimp only; omega) ⟨rfl, rfl, rfl, rfl, rfl, rfl, rfl, (by (try dsimp only); rw [allL_next hx (by omega), List.length_append]; rfl), rfl, trivial⟩ (fun _ hs => by have h1 := ((((((((((((hs.pull (.there (.there (.there (.there (.there (.there (.there (.there (.there (.there (.there .here)))))))))))).pull (.there (.there (.there (.there (.there (.there (.there (.there (.there (.there (.there .here)))))))))))).pull (.there (.there (.there (.there (.there (.there (.there (.there (.there (.there (.there .here)))))))))))).pull (.there (.there (.there (.there (.there (.there (.there (.there (.there (.there (.there .here)))))))))))).pull (.there (.there (.there (.there (.there (.there (.there (.there (.there (.there (.there .here)))))))))))).pull (.there (.there (.there (.there (.there (.there (.there (.there (.there (.there (.there .here)))))))))))).pull (.there (.there (.there (.there (.there (.there (.there (.there (.there (.there (.there .here)))))))))))).pull (.there (.there (.there (.there (.there (.there (.there (.there (.there (.there (.there .here)))))))))))).pull (.there (.there (.there (.there (.there (.there (.there (.there (.there (.there (.there .here)))))))))))).pull (.there (.there (.there (.there (.there (.there (.there (.there (.there (.there (.there .here)))))))))))).pull (.there (.there (.there (.there (.there (.there (.there (.there (.there (.there (.there .here)))))))))))).pull (.there (.there (.there (.there (.there (.there (.there (.there (.there (.there (.there .here)))))))))))).drop; (try dsimp only); rw [allL_next hx (by omega), List.length_append, fm_app]; exact h1) 
          · refine Ops.q (q_cmp rfl rfl (c_nlt (by omega))) ?_
            have hk4 := allL_end hA (show k = (evA (wdL 2 us) 2).length by omega)
            rw [hk4]
            refine Ops.to rfl ?_
            refine Cd.seq ?_
            refine Cd.cond_f rfl ?_
            refine Cd.exitTo rfl ?_
            refine Cd.seq ?_
            refine Cd.region ?_
            refine Ops.q (q_ldBN [.slice p ((pathN g 0 v).ns.length) pc, .int .i64 ((pathN g 0 v).inp), .slice ps ((pathN g 0 v).ss.length) psc] isA_32 sz_32 rfl (.there (.there .here)) rfl) ?_
            refine Ops.q (q_bld [.int .i64 0, .int .i64 0] pls_88 zc_88 rfl rfl) ?_
            refine Ops.lit [.int .i64 0, .int .i64 0] el_27 zsb_88 rfl rfl ⟨by decide, by decide⟩ rfl ?_
            intro b33
            refine Ops.cl (α := Option Addr × Nat) (v := fun x => Value.tuple [Value.slice x.1 (xoL g v).length x.2, Value.int IntKind.i64 0].toArray) (B := fun x => [row x.1 x.2 88 2 (xoL g v).length ((xoL g v).flatMap eEvt)]) en_36 rfl (fun w hs => run_some_n _ _ _ _ (pathN g 0 v).ns (pathN g 0 v).inp (pathN g 0 v).ss _ _ [⟨0, 0⟩] 1 rfl 200 w (hs.ownRo (.there (.there (.there (.there .here))))) (hs.ownRo (.there (.there (.there (.there (.there .here)))))) (hs.ownRo .here) (rowle_any hs .here) (xoL g v) hJ.prepP (by rw [show (200 : Int).toNat = 200 from rfl]; exact hJ.runP)) ?_
            rintro ⟨xo, xoc⟩
            refine Ops.q (q_mv rfl) ?_
            refine Ops.q (q_ext rfl rfl) ?_
            refine Ops.q (q_ext rfl rfl) ?_
            refine Ops.q (q_asg rfl) ?_
            refine Ops.q (q_asg rfl) ?_
            refine Ops.to rfl ?_
            refine Cd.seq ?_
            refine Cd.region ?_
            refine Ops.q (q_ldBN [.slice m ((autN (mdNx 4 2 xs 4) ((0 : Nat) : Int) (accL 5 4) 2).ns.length) mc, .int .i64 ((autN (mdNx 4 2 xs 4) ((0 : Nat) : Int) (accL 5 4) 2).inp), .slice ms ((autN (mdNx 4 2 xs 4) ((0 : Nat) : Int) (accL 5 4) 2).ss.length) msc] isA_32 sz_32 rfl (.there (.there (.there (.there (.there (.there (.there .here))))))) rfl) ?_
            refine Ops.q (q_mv rfl) ?_
            refine Ops.cl (α := Option Addr × Nat) (v := fun x => Value.tuple [Value.slice x.1 (yoL (mdNx 4 2 xs 4) ((0 : Nat) : Int) (accL 5 4) (wdL 2 us) 2).length x.2, Value.int IntKind.i64 0].toArray) (B := fun x => [row x.1 x.2 88 2 (yoL (mdNx 4 2 xs 4) ((0 : Nat) : Int) (accL 5 4) (wdL 2 us) 2).length ((yoL (mdNx 4 2 xs 4) ((0 : Nat) : Int) (accL 5 4) (wdL 2 us) 2).flatMap eEvt)]) en_36 rfl (fun w hs => run_some_n _ _ _ _ (autN (mdNx 4 2 xs 4) ((0 : Nat) : Int) (accL 5 4) 2).ns (autN (mdNx 4 2 xs 4) ((0 : Nat) : Int) (accL 5 4) 2).inp (autN (mdNx 4 2 xs 4) ((0 : Nat) : Int) (accL 5 4) 2).ss _ _ (evA (wdL 2 us) 2) (evA (wdL 2 us) 2).length rfl 200 w (hs.ownRo (.there (.there (.there (.there (.there (.there (.there (.there .here))))))))) (hs.ownRo (.there (.there (.there (.there (.there (.there (.there (.there (.there .here)))))))))) (hs.ownRo (.there (.there (.there .here)))) (rowle_any hs (.there (.there (.there .here)))) (yoL (mdNx 4 2 xs 4) ((0 : Nat) : Int) (accL 5 4) (wdL 2 us) 2) hJ.prepA (by rw [show (200 : Int).toNat = 200 from rfl]; exact hJ.runA)) ?_
            rintro ⟨yo, yoc⟩
            refine Ops.q (q_mv rfl) ?_
            refine Ops.q (q_ext rfl rfl) ?_
            refine Ops.q (q_ext rfl rfl) ?_
            refine Ops.q (q_asg rfl) ?_
            refine Ops.q (q_asg rfl) ?_
            refine Ops.to rfl ?_
            refine Cd.seq ?_
            refine Cd.region ?_
            refine Ops.q (q_ldBN [.slice jn ((jN g v (mdNx 4 2 xs 4) ((0 : Nat) : Int) (accL 5 4) 2).ns.length) jnc, .int .i64 ((jN g v (mdNx 4 2 xs 4) ((0 : Nat) : Int) (accL 5 4) 2).inp), .slice jns ((jN g v (mdNx 4 2 xs 4) ((0 : Nat) : Int) (accL 5 4) 2).ss.length) jnsc] isA_32 sz_32 rfl (.there (.there (.there (.there (.there (.there (.there (.there (.there (.there (.there .here))))))))))) rfl) ?_
            refine Ops.q (q_mv rfl) ?_
            refine Ops.cl (α := Option Addr × Nat) (v := fun x => Value.tuple [Value.slice x.1 (zoL g v (mdNx 4 2 xs 4) ((0 : Nat) : Int) (accL 5 4) (wdL 2 us) 2).length x.2, Value.int IntKind.i64 0].toArray) (B := fun x => [row x.1 x.2 88 2 (zoL g v (mdNx 4 2 xs 4) ((0 : Nat) : Int) (accL 5 4) (wdL 2 us) 2).length ((zoL g v (mdNx 4 2 xs 4) ((0 : Nat) : Int) (accL 5 4) (wdL 2 us) 2).flatMap eEvt)]) en_36 rfl (fun w hs => run_some_n _ _ _ _ (jN g v (mdNx 4 2 xs 4) ((0 : Nat) : Int) (accL 5 4) 2).ns (jN g v (mdNx 4 2 xs 4) ((0 : Nat) : Int) (accL 5 4) 2).inp (jN g v (mdNx 4 2 xs 4) ((0 : Nat) : Int) (accL 5 4) 2).ss _ _ (evJ (wdL 2 us) 2) (evJ (wdL 2 us) 2).length rfl 200 w (hs.ownRo (.there (.there (.there (.there (.there (.there (.there (.there (.there (.there (.there (.there .here))))))))))))) (hs.ownRo (.there (.there (.there (.there (.there (.there (.there (.there (.there (.there (.there (.there (.there .here)))))))))))))) (hs.ownRo (.there (.there (.there .here)))) (rowle_any hs (.there (.there (.there .here)))) (zoL g v (mdNx 4 2 xs 4) ((0 : Nat) : Int) (accL 5 4) (wdL 2 us) 2) hJ.prepJ (by rw [show (200 : Int).toNat = 200 from rfl]; exact hJ.runJ)) ?_
            rintro ⟨zo, zoc⟩
            refine Ops.q (q_mv rfl) ?_
            refine Ops.q (q_ext rfl rfl) ?_
            refine Ops.q (q_ext rfl rfl) ?_
            refine Ops.q (q_asg rfl) ?_
            refine Ops.q (q_asg rfl) ?_
            refine Ops.to rfl ?_
            refine Cd.seq ?_
            refine Cd.seq ?_
            refine Cd.region ?_
            have hzl := z_len (g := g) (v := v) (nx := (mdNx 4 2 xs 4)) (st := ((0 : Nat) : Int)) (acc := (accL 5 4)) (ws := (wdL 2 us)) (k := 2)
            have hxl := x_len (g := g) (v := v)
            have hyl := y_len (nx := (mdNx 4 2 xs 4)) (st := ((0 : Nat) : Int)) (acc := (accL 5 4)) (ws := (wdL 2 us)) (k := 2)
            have hmn := hJ.mn
            refine Ops.q (q_mv rfl) ?_
            refine Ops.q (q_cmp rfl rfl (c_nne (by decide))) ?_
            refine Ops.q (q_mv rfl) ?_
            refine Ops.q (q_mv rfl) ?_
            refine Ops.q (q_cmp rfl rfl (c_nne (by decide))) ?_
            refine Ops.q (q_pickF rfl rfl) ?_
            refine Ops.q (q_mv rfl) ?_
            refine Ops.q (q_mv rfl) ?_
            refine Ops.q (q_cmp rfl rfl (c_nne (by decide))) ?_
            refine Ops.q (q_pickF rfl rfl) ?_
            refine Ops.q (q_mv rfl) ?_
            refine Ops.q (q_mv rfl) ?_
            refine Ops.q (q_len esz_27 rfl) ?_
            refine Ops.q (q_mv rfl) ?_
            refine Ops.q (q_len esz_27 rfl) ?_
            refine Ops.q (q_mv rfl) ?_
            refine Ops.q (q_len esz_27 rfl) ?_
            refine Ops.q (q_ar (v := ((xoL g v).length : Int) + ((yoL (mdNx 4 2 xs 4) ((0 : Nat) : Int) (accL 5 4) (wdL 2 us) 2).length : Int)) rfl rfl (a_add (by omega))) ?_
            refine Ops.q (q_cmp rfl rfl (c_nne (by omega))) ?_
            refine Ops.q (q_pickF rfl rfl) ?_
            refine Ops.to rfl ?_
            refine Cd.cond_f rfl ?_
            refine Cd.skipTo rfl ?_
            refine Cd.seq ?_
            refine Cd.region ?_
            refine Ops.q (q_asg rfl) ?_
            refine Ops.q (q_asg rfl) ?_
            refine Ops.to rfl ?_
            refine Cd.seq ?_
            refine Cd.seq ?_
            refine Cd.region ?_
            refine Ops.q (q_mv rfl) ?_
            refine Ops.q (q_len esz_27 rfl) ?_
            refine Ops.q (q_mv rfl) ?_
            refine Ops.to rfl ?_
            refine Cd.block ?_
            refine Cd.lp (σ := Nat) (fun k => k ≤ (zoL g v (mdNx 4 2 xs 4) ((0 : Nat) : Int) (accL 5 4) (wdL 2 us) 2).length) (fun k => [(9, .int .i64 (v : Int)), (28, .slice xo ((xoL g v).length) xoc), (29, .slice yo ((yoL (mdNx 4 2 xs 4) ((0 : Nat) : Int) (accL 5 4) (wdL 2 us) 2).length) yoc), (198, .slice zo ((zoL g v (mdNx 4 2 xs 4) ((0 : Nat) : Int) (accL 5 4) (wdL 2 us) 2).length) zoc), (199, .int .i64 ((zoL g v (mdNx 4 2 xs 4) ((0 : Nat) : Int) (accL 5 4) (wdL 2 us) 2).length : Int)), (31, .int .i64 (((cLo v ((zoL g v (mdNx 4 2 xs 4) ((0 : Nat) : Int) (accL 5 4) (wdL 2 us) 2).take k)) : Nat) : Int)), (32, .int .i64 (((cHi v ((zoL g v (mdNx 4 2 xs 4) ((0 : Nat) : Int) (accL 5 4) (wdL 2 us) 2).take k)) : Nat) : Int)), (200, .int .i64 (k : Int))]) (fun k => [row zo zoc 88 2 ((zoL g v (mdNx 4 2 xs 4) ((0 : Nat) : Int) (accL 5 4) (wdL 2 us) 2).length) ((zoL g v (mdNx 4 2 xs 4) ((0 : Nat) : Int) (accL 5 4) (wdL 2 us) 2).flatMap eEvt), row xo xoc 88 2 ((xoL g v).length) ((xoL g v).flatMap eEvt), row yo yoc 88 2 ((yoL (mdNx 4 2 xs 4) ((0 : Nat) : Int) (accL 5 4) (wdL 2 us) 2).length) ((yoL (mdNx 4 2 xs 4) ((0 : Nat) : Int) (accL 5 4) (wdL 2 us) 2).flatMap eEvt)]) (fun k => (zoL g v (mdNx 4 2 xs 4) ((0 : Nat) : Int) (accL 5 4) (wdL 2 us) 2).length - k) 0 (Nat.zero_le _) ⟨rfl, rfl, rfl, rfl, rfl, rfl, rfl, rfl, trivial⟩ (fun _ hs => (((((((((((((((hs.pull (.there .here)).pull (.there (.there .here))).pull (.there (.there .here))).pull (.there (.there (.there .here)))).drop.pull (.there (.there (.there .here)))).drop.pull (.there (.there (.there .here)))).drop.pull (.there (.there (.there .here)))).drop.pull (.there (.there (.there .here)))).drop.pull (.there (.there (.there .here)))).drop.pull (.there (.there (.there .here)))).drop.pull (.there (.there (.there .here)))).drop.pull (.there (.there (.there .here)))).drop.pull (.there (.there (.there .here)))).drop.pull (.there (.there (.there .here)))).drop.pull (.there (.there (.there .here)))).drop) ?_
            intro k hI
            refine Cd.seq ?_
            refine Cd.region ?_
            by_cases hk : (k : Int) < ((zoL g v (mdNx 4 2 xs 4) ((0 : Nat) : Int) (accL 5 4) (wdL 2 us) 2).length : Int)
            · refine Ops.q (q_cmp rfl rfl (c_lt hk)) ?_
              obtain ⟨⟨tz, iz⟩, hx⟩ : ∃ x, (zoL g v (mdNx 4 2 xs 4) ((0 : Nat) : Int) (accL 5 4) (wdL 2 us) 2)[k]? = some x := ⟨_, List.getElem?_eq_getElem (by omega)⟩
              have hzm := z_mem (List.mem_iff_getElem?.2 ⟨k, hx⟩)
              dsimp only at hzm
              refine Ops.rowpos .here (by omega) ?_
              rintro zb rfl
              refine Ops.to rfl ?_
              refine Cd.seq ?_
              refine Cd.cond_t rfl ?_
              refine Cd.skipTo rfl ?_
              refine Cd.seq ?_
              refine Cd.block ?_
              refine Cd.seq ?_
              refine Cd.region ?_
              refine Ops.q (q_ix (k := k) esz_27 rfl rfl (by omega)) ?_
              refine Ops.q (q_ldON [.int .i64 tz, .int .i64 iz] isA_88 sz_88 rfl .here (fm_atN eEvt_len hx)) ?_
              refine Ops.alc [.int .i64 0, .int .i64 0] zc_88 ?_
              intro b34
              refine Ops.stB [.int .i64 tz, .int .i64 iz] [.int .i64 tz, .int .i64 iz] sz_88 rfl rfl rfl (one rfl) .here rfl rfl ?_
              refine Ops.to rfl ?_
              refine Cd.seq ?_
              refine Cd.seq ?_
              refine Cd.region ?_
              refine Ops.q (q_fa fo_88_1 rfl) ?_
              refine Ops.q (q_ldB isA_3 rfl .here rfl) ?_
              refine Ops.q (q_mv rfl) ?_
              by_cases hlow : iz < (v : Int)
              · refine Ops.q (q_cmp rfl rfl (c_lt hlow)) ?_
                have hxg := x_at hx hlow
                have hxl := (List.getElem?_eq_some_iff.1 hxg).1
                refine Ops.rowpos (.there (.there .here)) (by omega) ?_
                rintro xb6 rfl
                refine Ops.to rfl ?_
                refine Cd.cond_t rfl ?_
                refine Cd.seq ?_
                refine Cd.seq ?_
                refine Cd.draw rfl (by kernel_rfl) (.cons (.there (.there .here)) (.cons .here .nil)) ?_
                intro F35 St36 hP37 hF38 hR39
                refine Dr.q (i := 0) hP37 rfl (by kernel_rfl) (q_mv rfl) ?_
                refine Dr.q (i := 1) hP37 rfl (by kernel_rfl) (q_mv rfl) ?_
                refine Dr.q (i := 2) hP37 rfl (by kernel_rfl) (q_len esz_27 rfl) ?_
                refine Dr.q (i := 3) hP37 rfl (by kernel_rfl) (q_cmp rfl rfl (c_nge (by omega))) ?_
                refine Dr.q (i := 4) hP37 rfl (by kernel_rfl) (q_mv rfl) ?_
                refine Dr.q (i := 5) hP37 rfl (by kernel_rfl) (q_mv rfl) ?_
                refine Dr.q (i := 6) hP37 rfl (by kernel_rfl) (q_mv rfl) ?_
                refine Dr.q (i := 7) hP37 rfl (by kernel_rfl) (q_ix (k := (cLo v ((zoL g v (mdNx 4 2 xs 4) ((0 : Nat) : Int) (accL 5 4) (wdL 2 us) 2).take k))) esz_27 rfl rfl (by omega)) ?_
                refine Dr.q (i := 8) hP37 rfl (by kernel_rfl) (q_ldON [.int .i64 tz, .int .i64 iz] isA_88 sz_88 rfl .here (fm_atN eEvt_len hxg)) ?_
                refine Dr.q (i := 9) hP37 rfl (by kernel_rfl) (q_ldBN [.int .i64 tz, .int .i64 iz] isA_88 sz_88 rfl (.there .here) rfl) ?_
                refine Dr.q (i := 10) hP37 rfl (by kernel_rfl) (q_neF [tz, iz] [tz, iz] intS_88 rfl rfl rfl rfl rfl rfl) ?_
                refine Dr.q (i := 11) hP37 rfl (by kernel_rfl) (q_pickF rfl rfl) ?_
                refine Dr.tail 12 (by kernel_rfl) ?_
                refine Ops.sat ?_ (fun _ hs => hR39 .here hs)
                refine Ops.to rfl ?_
                refine Cd.cond_f rfl ?_
                refine Cd.skipTo rfl ?_
                refine Cd.seq ?_
                refine Cd.region ?_
                refine Ops.q (q_mv rfl) ?_
                refine Ops.q (q_ar rfl rfl (a_inc (by omega))) ?_
                refine Ops.q (q_asg rfl) ?_
                refine Ops.to rfl ?_
                refine Cd.exitTo rfl ?_
                refine Cd.region ?_
                refine Ops.q (q_ar rfl rfl (a_inc (by omega))) ?_
                refine Ops.q (q_mv rfl) ?_
                refine Ops.rnd (k + 1) rfl (by omega) (by omega) ⟨rfl, rfl, rfl, rfl, rfl, (by (try dsimp only); rw [(c_low hx hlow).1]; rfl), (by (try dsimp only); rw [(c_low hx hlow).2]; rfl), rfl, trivial⟩ (fun _ hs => ((((hs.pull (.there (.there (.there .here)))).pull (.there .here)).pull (.there (.there (.there .here)))).pull (.there (.there (.there .here)))).drop) 
              · refine Ops.q (q_cmp rfl rfl (c_nlt (by omega))) ?_
                have hyg := y_at hx hlow
                have hyl := (List.getElem?_eq_some_iff.1 hyg).1
                refine Ops.rowpos (.there (.there (.there .here))) (by omega) ?_
                rintro yb6 rfl
                refine Ops.to rfl ?_
                refine Cd.cond_f rfl ?_
                refine Cd.skipTo rfl ?_
                refine Cd.seq ?_
                refine Cd.seq ?_
                refine Cd.draw rfl (by kernel_rfl) (.cons (.there (.there (.there .here))) (.cons .here .nil)) ?_
                intro F40 St41 hP42 hF43 hR44
                refine Dr.q (i := 0) hP42 rfl (by kernel_rfl) (q_mv rfl) ?_
                refine Dr.q (i := 1) hP42 rfl (by kernel_rfl) (q_mv rfl) ?_
                refine Dr.q (i := 2) hP42 rfl (by kernel_rfl) (q_len esz_27 rfl) ?_
                refine Dr.q (i := 3) hP42 rfl (by kernel_rfl) (q_cmp rfl rfl (c_nge (by omega))) ?_
                refine Dr.q (i := 4) hP42 rfl (by kernel_rfl) (q_mv rfl) ?_
                refine Dr.q (i := 5) hP42 rfl (by kernel_rfl) (q_mv rfl) ?_
                refine Dr.q (i := 6) hP42 rfl (by kernel_rfl) (q_mv rfl) ?_
                refine Dr.q (i := 7) hP42 rfl (by kernel_rfl) (q_ix (k := (cHi v ((zoL g v (mdNx 4 2 xs 4) ((0 : Nat) : Int) (accL 5 4) (wdL 2 us) 2).take k))) esz_27 rfl rfl (by omega)) ?_
                refine Dr.q (i := 8) hP42 rfl (by kernel_rfl) (q_ldON [.int .i64 tz, .int .i64 (iz - (v : Int))] isA_88 sz_88 rfl .here (fm_atN eEvt_len hyg)) ?_
                refine Dr.q (i := 9) hP42 rfl (by kernel_rfl) (q_fa fo_88_0 rfl) ?_
                refine Dr.q (i := 10) hP42 rfl (by kernel_rfl) (q_ldB isA_3 rfl (.there .here) rfl) ?_
                refine Dr.q (i := 11) hP42 rfl (by kernel_rfl) (q_fa fo_88_1 rfl) ?_
                refine Dr.q (i := 12) hP42 rfl (by kernel_rfl) (q_ldB isA_3 rfl (.there .here) rfl) ?_
                refine Dr.q (i := 13) hP42 rfl (by kernel_rfl) (q_mv rfl) ?_
                refine Dr.q (i := 14) hP42 rfl (by kernel_rfl) (q_ar (v := iz - (v : Int)) rfl rfl (a_sub (by omega))) ?_
                refine Dr.e (i := 15) rfl (by kernel_rfl) ?_
                refine Ops.cp en_39 rfl (fun w hs => at_c tz (iz - (v : Int)) w) ?_
                refine Dr.back (fun _ hs => hF43 .here hs) ?_
                refine Dr.q (i := 16) hP42 rfl (by kernel_rfl) (q_neF [tz, iz - (v : Int)] [tz, iz - (v : Int)] intS_88 rfl rfl rfl rfl rfl rfl) ?_
                refine Dr.q (i := 17) hP42 rfl (by kernel_rfl) (q_pickF rfl rfl) ?_
                refine Dr.tail 18 (by kernel_rfl) ?_
                refine Ops.sat ?_ (fun _ hs => hR44 .here hs)
                refine Ops.to rfl ?_
                refine Cd.cond_f rfl ?_
                refine Cd.skipTo rfl ?_
                refine Cd.region ?_
                refine Ops.q (q_mv rfl) ?_
                refine Ops.q (q_ar rfl rfl (a_inc (by omega))) ?_
                refine Ops.q (q_asg rfl) ?_
                refine Ops.to rfl ?_
                refine Cd.region ?_
                refine Ops.q (q_ar rfl rfl (a_inc (by omega))) ?_
                refine Ops.q (q_mv rfl) ?_
                refine Ops.rnd (k + 1) rfl (by omega) (by omega) ⟨rfl, rfl, rfl, rfl, rfl, (by (try dsimp only); rw [(c_high hx hlow).1]; rfl), (by (try dsimp only); rw [(c_high hx hlow).2]; rfl), rfl, trivial⟩ (fun _ hs => ((((hs.pull .here).pull (.there (.there (.there .here)))).pull (.there (.there (.there .here)))).pull (.there (.there (.there .here)))).drop) 
            · refine Ops.q (q_cmp rfl rfl (c_nlt (by omega))) ?_
              have hce := c_end (show (zoL g v (mdNx 4 2 xs 4) ((0 : Nat) : Int) (accL 5 4) (wdL 2 us) 2).length ≤ k by omega)
              refine Ops.to rfl ?_
              refine Cd.seq ?_
              refine Cd.cond_f rfl ?_
              refine Cd.exitTo rfl ?_
              refine Cd.seq ?_
              refine Cd.region ?_
              refine Ops.q (q_mv rfl) ?_
              refine Ops.q (q_mv rfl) ?_
              refine Ops.q (q_len esz_27 rfl) ?_
              refine Ops.q (q_cmp rfl rfl (c_eq (by omega))) ?_
              refine Ops.q (q_mv rfl) ?_
              refine Ops.q (q_mv rfl) ?_
              refine Ops.q (q_mv rfl) ?_
              refine Ops.q (q_len esz_27 rfl) ?_
              refine Ops.q (q_cmp rfl rfl (c_eq (by omega))) ?_
              refine Ops.q (q_pickT rfl rfl) ?_
              refine Ops.q (q_mv rfl) ?_
              refine Ops.cp en_13 rfl (fun w hs => works_c w) ?_
              refine Ops.q (q_pickT rfl rfl) ?_
              refine Ops.q (q_asg rfl) ?_
              refine Ops.to rfl ?_
              refine Cd.rt (fn := Try.f12) [.bool true] (by with_reducible repeat (first | exact rq_here | apply rq_then | apply rq_block)) rfl ⟨rfl, trivial⟩ ?_
              intro w' hs'
              exact ⟨rfl, hs'.none⟩
end Go.Proofs.Ytilcdghliigngaa
