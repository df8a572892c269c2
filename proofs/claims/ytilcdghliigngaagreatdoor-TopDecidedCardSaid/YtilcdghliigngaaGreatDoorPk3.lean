/- Part of a claim: the program logic, the contracts of the functions, their models. No condition. -/
import Derived.WalkKit
import Derived.OwnWalkIn
import Derived.TacticsInMore
import Derived.OrdersIn
import Derived.RangeFuncLeaves
import Derived.RangeFuncNested
import Derived.Maps.AppendAt
import Derived.Shelf.Abstract
import Derived.MapKept
import Derived.Laws.StructEq
import Derived.Laws.OwnMore
import Derived.RangeFuncRecord
import Derived.Lib.SliceRun
import Derived.Lib.AppendZeros
import Derived.Lib.AppendZerosOnto
import Derived.Lib.Overlaps
import Derived.Laws.Externs
import Derived.Maps.RangeRun
import Derived.Lib.AppendStr
import Derived.Laws.Pointers
import Derived.Laws.Small
import Derived.Laws.IdiomStrings
import Derived.Laws.Slices
import Derived.Test.YtilcdghliigngaaGreatDoorProg
import Derived.Test.YtilcdghliigngaaGreatDoorPk2
namespace Go.Proofs.YtilcdghliigngaaGreatDoor
open Go.RowKit Go.Proofs.YtilcdghliigngaaGreatDoorGl Go.Proofs.YtilcdghliigngaaGreatDoorPm
set_option linter.unusedVariables false
set_option linter.unusedSimpArgs false
structure NetI (ns : List Prm) (ss : List Syn) (idl : Nat → List Int) : Prop where
  prm : ∀ p ∈ ns, nCheck p = 0 ∧ p.rest = 0
  syn : ∀ s ∈ ss, s.src < (ns.length : Int) ∧ 0 ≤ s.dst ∧ s.dst < (ns.length : Int) ∧ 1 ≤ s.dl ∧ s.dl ≤ 16
  ids : ∀ k, (idl k).Nodup ∧ ∀ i ∈ idl k, 0 ≤ i
theorem ofNat_inj : Function.Injective (fun d : Nat => (d : Int)) := fun a b h => Int.ofNat.inj h
theorem nodup_map {α β : Type} {f : α → β} (hf : Function.Injective f) : ∀ {xs : List α}, xs.Nodup → (xs.map f).Nodup
  | [], _ => by simp
  | x :: xs, h => by
    obtain ⟨h1, h2⟩ := List.nodup_cons.1 h
    rw [List.map_cons, List.nodup_cons]
    refine ⟨fun hm => ?_, nodup_map hf h2⟩
    obtain ⟨y, hy, e⟩ := List.mem_map.1 hm
    exact h1 (hf e ▸ hy)
theorem sim_step {ns : List Prm} {ss : List Syn} {F : Nat → Nat → Bool} {idl : Nat → List Int} {V : Nat → Nat → Int} {k : Nat} {sts : List Stt} {ring : List (List Int)} (hN : NetI ns ss idl) (h : SimI ns ss F idl V k sts ring)
    (hX : ∀ d, d < ns.length → -4611686018427387904 ≤ inX ss F idl k d ∧ inX ss F idl k d ≤ 4611686018427387904)
    (hV : ∀ (d : Nat) (p : Prm), ns[d]? = some p → stepV p (V k d) (inX ss F idl k d) = (V (k + 1) d, F k d)) :
    SimI ns ss F idl V (k + 1) (stepR ns ss k sts ring (idl k)).1 (stepR ns ss k sts ring (idl k)).2.1 ∧ (stepR ns ss k sts ring (idl k)).2.2 = ((List.range ns.length).filter (F k)).map (fun d : Nat => (d : Int)) := by
  obtain ⟨xs, hxs⟩ : ∃ xs, ring[k % 16]? = some xs := ⟨_, List.getElem?_eq_getElem (by rw [h.shp.1]; omega)⟩
  have hxl := h.shp.2 _ _ hxs
  have hin : ∀ d, d < ns.length → xs[d]? = some (inX ss F idl k d) := fun d hd => by
    have h1 := h.ring 0 d (by omega) hd
    rw [Nat.add_zero] at h1
    unfold rgc at h1
    rw [hxs] at h1
    obtain ⟨v, hv⟩ : ∃ v, xs[d]? = some v := ⟨_, List.getElem?_eq_getElem (by omega)⟩
    simp only [Option.getD_some, hv] at h1
    rw [hv, h1, inX_due _ _ _ _ _ (fun s hs => (hN.syn s hs).2.2.2.1), W64_id (hX d hd)]
  have hT : ∀ d, d < ns.length → (tickAll ns sts xs)[d]? = some (⟨V (k + 1) d, 0⟩, F k d) := fun d hd => by
    obtain ⟨p, hp⟩ : ∃ p, ns[d]? = some p := ⟨_, List.getElem?_eq_getElem hd⟩
    obtain ⟨s, hs⟩ : ∃ s, sts[d]? = some s := ⟨_, List.getElem?_eq_getElem (by rw [h.sts.1]; exact hd)⟩
    obtain rfl := h.sts.2 d s hs
    obtain ⟨h1, h2⟩ := hN.prm p (List.mem_iff_getElem?.2 ⟨d, hp⟩)
    rw [tickAll_get hp hs (hin d hd), tickP_eq h1 h2 (h.bd d p hp), hV d p hp]
  have hTl := tickAll_length h.sts.1 hxl
  have hfire : fireI 0 (tickAll ns sts xs) = ((List.range ns.length).filter (F k)).map (fun d : Nat => (d : Int)) := by
    have := fireI_range (T := tickAll ns sts xs) (F := F k) (fun d t ht => by
      have hd := (List.getElem?_eq_some_iff.1 ht).1
      rw [hT d (by omega)] at ht
      cases ht; rfl) ns.length (by omega)
    rwa [List.take_of_length_le (by omega)] at this
  have e1 : stepR ns ss k sts ring (idl k) = ((tickAll ns sts xs).map (·.1), (metS ss (fireI 0 (tickAll ns sts xs)) (idl k)).foldl (addR k) (ring.modify (k % 16) fun _ => List.replicate ns.length 0), fireI 0 (tickAll ns sts xs)) := by
    unfold stepR; rw [hxs]; rfl
  rw [e1]
  refine ⟨?_, hfire⟩
  have hq : Shp (ring.modify (k % 16) fun _ => List.replicate ns.length 0) ns.length := by
    refine ⟨by rw [List.length_modify]; exact h.shp.1, fun j r hr => ?_⟩
    rw [modify_get] at hr
    split at hr
    · obtain ⟨r', _, rfl⟩ := Option.map_eq_some_iff.1 hr; simp
    · exact h.shp.2 j r hr
  have hmem : ∀ s ∈ metS ss (fireI 0 (tickAll ns sts xs)) (idl k), s ∈ ss := fun s hs => by
    rw [metS_keys] at hs
    obtain ⟨_, _, h2⟩ := List.mem_flatMap.1 hs
    exact (List.mem_filter.1 h2).1
  obtain ⟨f1, f2⟩ := fold_get (now := k) hq (l := metS ss (fireI 0 (tickAll ns sts xs)) (idl k)) (fun s hs => (hN.syn s (hmem s hs)).2.1)
  have hnd : (fireI 0 (tickAll ns sts xs) ++ (idl k).map (fun i => -1 - i)).Nodup := by
    rw [hfire]
    refine List.nodup_append.2 ⟨nodup_map ofNat_inj (List.nodup_range.filter _), nodup_map (fun a b (e : -1 - a = -1 - b) => by omega) (hN.ids k).1, fun a ha b hb e => ?_⟩
    obtain ⟨d, _, rfl⟩ := List.mem_map.1 ha
    obtain ⟨i, hi, rfl⟩ := List.mem_map.1 hb
    have := (hN.ids k).2 i hi
    omega
  have hkey : ∀ s ∈ ss, (s.src ∈ fireI 0 (tickAll ns sts xs) ++ (idl k).map (fun i => -1 - i)) ↔ srcF F idl k s.src = true := fun s hs => by
    obtain ⟨g1, _⟩ := hN.syn s hs
    rw [List.mem_append, hfire]
    unfold srcF
    by_cases h0 : 0 ≤ s.src
    · rw [if_pos h0]
      constructor
      · rintro (hm | hm)
        · obtain ⟨d, hd, e⟩ := List.mem_map.1 hm
          obtain ⟨_, hF⟩ := List.mem_filter.1 hd
          rw [← e]; simpa using hF
        · obtain ⟨i, hi, e⟩ := List.mem_map.1 hm
          have := (hN.ids k).2 i hi
          omega
      · intro hF
        exact .inl (List.mem_map.2 ⟨s.src.toNat, List.mem_filter.2 ⟨List.mem_range.2 (by omega), hF⟩, by simp; omega⟩)
    · rw [if_neg h0, decide_eq_true_eq]
      constructor
      · rintro (hm | hm)
        · obtain ⟨d, _, e⟩ := List.mem_map.1 hm
          omega
        · obtain ⟨i, hi, e⟩ := List.mem_map.1 hm
          have : -1 - s.src = i := by omega
          rw [this]; exact hi
      · intro hi
        exact .inr (List.mem_map.2 ⟨_, hi, by omega⟩)
  refine ⟨f1, ⟨by rw [List.length_map]; exact hTl, fun d s hs => ?_⟩, fun j d hj hd => ?_, fun d p hp => ?_⟩
  · rw [List.getElem?_map] at hs
    obtain ⟨t, ht, rfl⟩ := Option.map_eq_some_iff.1 hs
    have hd := (List.getElem?_eq_some_iff.1 ht).1
    rw [hT d (by omega)] at ht
    cases ht; rfl
  · have hb : rgc (ring.modify (k % 16) fun _ => List.replicate ns.length 0) ((k + (j + 1)) % 16) d = W64 (dueY ss F idl k (j + 1) d) := by
      by_cases h16 : j = 15
      · subst h16
        have e2 : (k + (15 + 1)) % 16 = k % 16 := by omega
        have e3 : dueY ss F idl k (15 + 1) d = 0 := sumI_zero (fun s hs => by
          have := (hN.syn s hs).2.2.2.2
          rw [if_neg (fun c => by omega)])
        unfold rgc
        rw [e2, e3, modify_get, if_pos rfl, hxs]
        simp only [Option.map_some, Option.getD_some, List.getElem?_replicate, if_pos hd]
        rw [W64_id (by omega)]
      · have h1 := h.ring (j + 1) d (by omega) hd
        rw [← h1]
        unfold rgc
        rw [modify_get, if_neg (by omega)]
    have h2 := f2 ((k + (j + 1)) % 16) d _ (by omega) hd hb
    rw [show (k + 1 + j) % 16 = (k + (j + 1)) % 16 by omega, h2, dueY_next hj, metS_keys, sumI_keys _ _ hnd]
    congr 2
    refine sumI_congr (fun s hs => ?_)
    obtain ⟨_, _, _, g4, g5⟩ := hN.syn s hs
    have hk2 := hkey s hs
    by_cases c : s.src ∈ fireI 0 (tickAll ns sts xs) ++ (idl k).map (fun i => -1 - i)
    · rw [if_pos c]
      have hF := hk2.1 c
      by_cases c2 : s.dst = (d : Int)
      · by_cases c3 : s.dl = (j : Int) + 1
        · rw [if_pos ⟨by omega, c2⟩, if_pos ⟨c3, c2, hF⟩]
        · rw [if_neg (fun e => c3 (by omega)), if_neg (fun e => c3 e.1)]
      · rw [if_neg (fun e => c2 e.2), if_neg (fun e => c2 e.2.1)]
    · rw [if_neg c, if_neg (fun e => c (hk2.2 e.2.2))]
  · have h1 := (hN.prm p (List.mem_iff_getElem?.2 ⟨d, hp⟩)).1
    have := stepV_bd h1 (V k d) (inX ss F idl k d)
    rw [hV d p hp] at this
    exact this
theorem outF_next (F : Nat → Nat → Bool) (n k : Nat) : outF F n (k + 1) = outF F n k ++ ((List.range n).filter (F k)).map (fun d : Nat => (⟨(k : Int), (d : Int)⟩ : Evt)) := by
  unfold outF
  rw [List.range_succ, List.flatMap_append]; simp
theorem outF_len (F : Nat → Nat → Bool) (n : Nat) : ∀ k, (outF F n k).length ≤ k * n
  | 0 => by simp [outF]
  | k + 1 => by
    have ih := outF_len F n k
    rw [outF_next, List.length_append, List.length_map, Nat.succ_mul]
    have : ((List.range n).filter (F k)).length ≤ n := by
      have := List.length_filter_le (F k) (List.range n)
      rwa [List.length_range] at this
    omega
theorem sim_runP {ns : List Prm} {ss : List Syn} {F : Nat → Nat → Bool} {idl : Nat → List Int} {V : Nat → Nat → Int} {T : Nat} (hN : NetI ns ss idl)
    (hX : ∀ k d, k < T → d < ns.length → -4611686018427387904 ≤ inX ss F idl k d ∧ inX ss F idl k d ≤ 4611686018427387904)
    (hV : ∀ (k d : Nat) (p : Prm), k < T → ns[d]? = some p → stepV p (V k d) (inX ss F idl k d) = (V (k + 1) d, F k d)) (hT : T * ns.length ≤ 65536) :
    ∀ (f k : Nat) (sts : List Stt) (ring : List (List Int)), k + f = T → SimI ns ss F idl V k sts ring → runP ns ss f k sts ring (evF idl k f) (outF F ns.length k) = some (outF F ns.length (k + f))
  | 0, k, sts, ring, hk, h => rfl
  | f + 1, k, sts, ring, hk, h => by
    obtain ⟨h1, h2⟩ := sim_step hN h (fun d hd => hX k d (by omega) hd) (fun d p hp => hV k d p (by omega) hp)
    obtain ⟨w1, w2⟩ := while_app (p := fun e : Evt => e.tick == (k : Int)) (A := (idl k).map (fun i => (⟨(k : Int), i⟩ : Evt))) (B := evF idl (k + 1) f)
      (fun a ha => by obtain ⟨i, _, rfl⟩ := List.mem_map.1 ha; simp) (fun b hb => by have := evF_ge idl f (k + 1) b hb; simp; omega)
    have e1 : (((evF idl k (f + 1)).takeWhile (fun e => e.tick == (k : Int))).map (·.id)) = idl k := by
      rw [evF, w1, List.map_map]; exact List.map_id' (idl k)
    have e2 : (evF idl k (f + 1)).dropWhile (fun e => e.tick == (k : Int)) = evF idl (k + 1) f := by rw [evF, w2]
    have e3 : outF F ns.length k ++ (((List.range ns.length).filter (F k)).map (fun d : Nat => (d : Int))).map (fun i => (⟨(k : Int), i⟩ : Evt)) = outF F ns.length (k + 1) := by
      rw [outF_next, List.map_map]; rfl
    have hl := outF_len F ns.length (k + 1)
    have hle : (k + 1) * ns.length ≤ 65536 := Nat.le_trans (Nat.mul_le_mul_right _ (by omega)) hT
    unfold runP
    dsimp only
    rw [e1, e2, h2, e3, if_neg (by omega), sim_runP hN hX hV hT f (k + 1) _ _ (by omega) h1]
    rw [show k + 1 + f = k + (f + 1) by omega]
theorem sim_run {ns : List Prm} {ip : Int} {ss : List Syn} {F : Nat → Nat → Bool} {idl : Nat → List Int} {V : Nat → Nat → Int} {T : Nat} (hN : NetI ns ss idl) (hV0 : ∀ d, V 0 d = 0)
    (hX : ∀ k d, k < T → d < ns.length → -4611686018427387904 ≤ inX ss F idl k d ∧ inX ss F idl k d ≤ 4611686018427387904)
    (hV : ∀ (k d : Nat) (p : Prm), k < T → ns[d]? = some p → stepV p (V k d) (inX ss F idl k d) = (V (k + 1) d, F k d)) (hT : T * ns.length ≤ 65536) :
    runN ⟨ns, ip, ss⟩ (evF idl 0 T) T = some (outF F ns.length T) := by
  have h0 : SimI ns ss F idl V 0 (List.replicate ns.length ⟨0, 0⟩) (List.replicate 16 (List.replicate ns.length 0)) := by
    refine ⟨⟨by simp, fun j r hr => ?_⟩, ⟨by simp, fun d s hs => ?_⟩, fun j d hj hd => ?_, fun d p hp => ?_⟩
    · rw [List.getElem?_replicate] at hr
      split at hr
      · cases hr; simp
      · cases hr
    · rw [List.getElem?_replicate] at hs
      split at hs
      · cases hs; rw [hV0]
      · cases hs
    · have e : dueY ss F idl 0 j d = 0 := sumI_zero (fun s hs => by rw [if_neg (fun c => by omega)])
      unfold rgc
      rw [e, List.getElem?_replicate, if_pos (by omega)]
      simp only [Option.getD_some, List.getElem?_replicate, if_pos hd]
      rw [W64_id (by omega)]
    · rw [hV0]
      have := nCheck_ok (hN.prm p (List.mem_iff_getElem?.2 ⟨d, hp⟩)).1
      unfold wi at *
      omega
  have := sim_runP hN hX hV hT T 0 _ _ (by omega) h0
  rw [Nat.zero_add] at this
  exact this
theorem evF_ord {ip lim : Int} {idl : Nat → List Int} (hs : ∀ k, (idl k).Pairwise (· < ·)) (hr : ∀ k, ∀ i ∈ idl k, wi i 0 (ip - 1)) : ∀ (f now : Nat) (q : Option Evt), (now + f : Int) ≤ lim → (∀ e, q = some e → e.tick < (now : Int)) → ordE ip lim q (evF idl now f) = 0
  | 0, now, q, _, _ => by cases q <;> rfl
  | f + 1, now, q, hl, hq => by
    have key : ∀ (l : List Int) (q : Option Evt), l.Pairwise (· < ·) → (∀ i ∈ l, wi i 0 (ip - 1)) → (∀ e, q = some e → e.tick < (now : Int) ∨ e.tick = (now : Int) ∧ ∀ i ∈ l, e.id < i) →
        ordE ip lim q (l.map (fun i => (⟨(now : Int), i⟩ : Evt)) ++ evF idl (now + 1) f) = 0 := by
      intro l
      induction l with
      | nil =>
        intro q _ _ hq
        exact evF_ord hs hr f (now + 1) q (by omega) (fun e he => by rcases hq e he with h | h <;> omega)
      | cons i l ih =>
        intro q hp hb hq
        obtain ⟨h1, h2⟩ := List.pairwise_cons.1 hp
        have hbad : ¬ evBad ip lim ⟨(now : Int), i⟩ := by
          unfold evBad
          exact fun h => h ⟨by unfold wi; dsimp only; omega, hb i (.head _)⟩
        have hrec := ih (some ⟨(now : Int), i⟩) h2 (fun j hj => hb j (.tail _ hj)) (fun e he => by cases he; exact .inr ⟨rfl, h1⟩)
        rw [List.map_cons, List.cons_append]
        cases q with
        | none => rw [ordE, if_neg hbad]; exact hrec
        | some q0 =>
          have hnot : ¬ evNot q0 ⟨(now : Int), i⟩ := by
            unfold evNot
            rintro (h | ⟨h, h'⟩)
            · rcases hq q0 rfl with g | ⟨g, _⟩ <;> (dsimp only at h; omega)
            · dsimp only at h h'
              rcases hq q0 rfl with g | ⟨_, g⟩
              · omega
              · have := g i (.head _); omega
          rw [ordE, if_neg hbad, if_neg hnot]; exact hrec
    exact key (idl now) q (hs now) (hr now) (fun e he => .inl (hq e he))
end Go.Proofs.YtilcdghliigngaaGreatDoor
namespace Go.Proofs.YtilcdghliigngaaGreatDoor
open Go.RowKit Go.Proofs.YtilcdghliigngaaGreatDoorGl Go.Proofs.YtilcdghliigngaaGreatDoorPm
set_option linter.unusedVariables false
set_option linter.unusedSimpArgs false
theorem feed_c (B : Nat) (na : Option Addr) (nc : Nat) (sa : Option Addr) (sc : Nat) (ns : List Prm) (ip : Int) (ss : List Syn) (f t d e : Int) (w0 w : World) (F : List Atom) (hm : ss.length < 10000000) (hf : -1000000 ≤ f ∧ f ≤ 1000000) (hs : Sat w0 w (bld B na nc sa sc ns ip ss F)) :
    Calls Tryz.prog 17 [.pointer (some ⟨B, 0, none⟩), .int .i64 f, .int .i64 t, .int .i64 d, .int .i64 e].toArray w fun en w' => ∃ p : Option Addr × Nat, en = .returned (.tuple #[]) ∧ Sat w0 w' (bld B na nc p.1 p.2 ns ip (ss ++ [⟨-1 - f, t, d, e⟩]) F) := by
  refine fstart Tryz.func17 rfl rfl hs ?_
  refine Cd.region ?_
  refine Ops.q (q_mv rfl) ?_
  refine Ops.q (q_mv rfl) ?_
  refine Ops.q (q_ar (v := -1 - f) rfl rfl (a_sub (by omega))) ?_
  refine Ops.q (q_mv rfl) ?_
  refine Ops.q (q_mv rfl) ?_
  refine Ops.q (q_mv rfl) ?_
  refine Ops.cm (α := Option Addr × Nat) (v := fun _ => .tuple #[]) (A' := fun p => blk B 60 [.slice na ns.length nc, .int .i64 ip, .slice p.1 ((ss ++ [(⟨-1 - f, t, d, e⟩ : Syn)]).length) p.2] :: row na nc 62 8 ns.length (ns.flatMap ePrm) :: row p.1 p.2 109 4 ((ss ++ [(⟨-1 - f, t, d, e⟩ : Syn)]).length) ((ss ++ [(⟨-1 - f, t, d, e⟩ : Syn)]).flatMap eSyn) :: F) en_16 rfl (fun w hs => join_c _ _ _ _ _ ns _ ss (-1 - f) t d e _ w _ (hm) ((((hs.pull .p2).pull .p2).pull .p2))) ?_
  rintro ⟨a1, c2⟩
  refine Ops.fin rfl rfl ?_
  intro w' hs'
  exact ⟨(a1, c2), rfl, hs'⟩
theorem grow_c (B : Nat) (p : Prm) (w : World) : Calls Tryz.prog 15 [.pointer (some ⟨B, 0, none⟩), .agg (ePrm p).toArray].toArray w fun e w' => ∃ x : Nat × Nat, e = .returned (.func (.func 48) #[] #[.pointer (some ⟨x.1, 0, none⟩), .pointer (some ⟨x.2, 0, none⟩)]) ∧ Sat w w' [blk x.1 62 (ePrm p), blk x.2 107 [.pointer (some ⟨B, 0, none⟩)]] := by
  refine fstart Tryz.func15 rfl rfl (Sat.nil w) ?_
  refine Cd.seq ?_
  refine Cd.region ?_
  refine Ops.box [.pointer (some ⟨B, 0, none⟩)] rfl rfl ?_
  intro b1
  refine Ops.box [.int .i64 p.lk, .int .i64 p.leak, .int .i64 p.bias, .int .i64 p.th, .int .i64 p.rk, .int .i64 p.rs, .int .i64 p.fl, .int .i64 p.rest] rfl rfl ?_
  intro b2
  refine Ops.q (q_asg rfl) ?_
  refine Ops.to rfl ?_
  refine Cd.seq ?_
  refine Cd.region ?_
  refine Ops.q (q_mkf rfl rfl) ?_
  refine Ops.q (q_asg rfl) ?_
  refine Ops.to rfl ?_
  refine Cd.rt (fn := Tryz.f15) [.func (.func 48) #[] #[.pointer (some ⟨b2, 0, none⟩), .pointer (some ⟨b1, 0, none⟩)]] (by with_reducible repeat (first | exact rq_here | apply rq_then | apply rq_block)) rfl ⟨rfl, trivial⟩ ?_
  intro w' hs
  exact ⟨(b2, b1), rfl, ((hs.pull (.there .here)).pull (.there .here))⟩
theorem gl_app {hs : List Int} {j : Nat} {x : Int} (hx : hs[j]? = some x) {ns : List Prm} {p : Prm} : ns ++ (hs.take (j + 1)).map (setTh p) = (ns ++ (hs.take j).map (setTh p)) ++ [setTh p x] := by
  rw [List.take_add_one, hx, List.map_append, ← List.append_assoc]; rfl
theorem gl_len {hs : List Int} {j : Nat} {x : Int} (hx : hs[j]? = some x) {ns : List Prm} {p : Prm} : ((ns ++ (hs.take j).map (setTh p)) ++ [setTh p x]).length = (ns ++ (hs.take j).map (setTh p)).length + 1 := by
  rw [List.length_append]; rfl
theorem grown_c (B : Nat) (na : Option Addr) (nc : Nat) (sa : Option Addr) (sc : Nat) (ns : List Prm) (ip : Int) (ss : List Syn) (pb bb : Nat) (ta : Option Addr) (tc : Nat) (ths : List Int) (p : Prm) (w0 w : World) (F : List Atom) (hn : ns.length + ths.length < 10000000)
    (hst : Sat w0 w (bld B na nc sa sc ns ip ss (blk pb 62 (ePrm p) :: blk bb 107 [.pointer (some ⟨B, 0, none⟩)] :: row ta tc 3 1 ths.length (ths.flatMap eInt) :: F))) :
    Calls Tryz.prog 48 [.slice ta ths.length tc, .pointer (some ⟨pb, 0, none⟩), .pointer (some ⟨bb, 0, none⟩)].toArray w fun en w' => ∃ q : Option Addr × Nat, en = .returned (.tuple #[]) ∧
      Sat w0 w' (bld B q.1 q.2 sa sc (ns ++ ths.map (setTh p)) ip ss (blk pb 62 (ePrm p) :: blk bb 107 [.pointer (some ⟨B, 0, none⟩)] :: row ta tc 3 1 ths.length (ths.flatMap eInt) :: F)) := by
  refine fstart Tryz.func48 rfl rfl hst ?_
  refine Cd.seq ?_
  refine Cd.region ?_
  refine Ops.q (q_mv rfl) ?_
  refine Ops.q (q_len esz_31 rfl) ?_
  refine Ops.q (q_mv rfl) ?_
  refine Ops.to rfl ?_
  refine Cd.block ?_
  refine Cd.lp (σ := Nat × Option Addr × Nat) (fun s => s.1 ≤ ths.length) (fun s => [(1, .pointer (some ⟨pb, 0, none⟩)), (2, .pointer (some ⟨bb, 0, none⟩)), (7, .slice ta ths.length tc), (8, .int .i64 (ths.length : Int)), (9, .int .i64 (s.1 : Int))]) (fun s => blk B 60 [.slice s.2.1 ((ns ++ (ths.take s.1).map (setTh p)).length) s.2.2, .int .i64 ip, .slice sa ss.length sc] :: row s.2.1 s.2.2 62 8 ((ns ++ (ths.take s.1).map (setTh p)).length) ((ns ++ (ths.take s.1).map (setTh p)).flatMap ePrm) :: row sa sc 109 4 ss.length (ss.flatMap eSyn) :: blk pb 62 [.int .i64 p.lk, .int .i64 p.leak, .int .i64 p.bias, .int .i64 p.th, .int .i64 p.rk, .int .i64 p.rs, .int .i64 p.fl, .int .i64 p.rest] :: blk bb 107 [.pointer (some ⟨B, 0, none⟩)] :: row ta tc 3 1 ths.length (ths.flatMap eInt) :: F) (fun s => ths.length - s.1) (0, na, nc) (Nat.zero_le _) ⟨rfl, rfl, rfl, rfl, rfl, trivial⟩ (fun _ hs => by dsimp only; rw [show ns ++ (ths.take 0).map (setTh p) = ns from List.append_nil _]; exact hs) ?_
  rintro ⟨kk, pa, pc⟩ hI
  dsimp only at hI
  change Cd _ _ _ _ _ _ _ [(1, .pointer (some ⟨pb, 0, none⟩)), (2, .pointer (some ⟨bb, 0, none⟩)), (7, .slice ta ths.length tc), (8, .int .i64 (ths.length : Int)), (9, .int .i64 (kk : Int))] (blk B 60 [.slice pa ((ns ++ (ths.take kk).map (setTh p)).length) pc, .int .i64 ip, .slice sa ss.length sc] :: row pa pc 62 8 ((ns ++ (ths.take kk).map (setTh p)).length) ((ns ++ (ths.take kk).map (setTh p)).flatMap ePrm) :: row sa sc 109 4 ss.length (ss.flatMap eSyn) :: blk pb 62 [.int .i64 p.lk, .int .i64 p.leak, .int .i64 p.bias, .int .i64 p.th, .int .i64 p.rk, .int .i64 p.rs, .int .i64 p.fl, .int .i64 p.rest] :: blk bb 107 [.pointer (some ⟨B, 0, none⟩)] :: row ta tc 3 1 ths.length (ths.flatMap eInt) :: F)
  refine Cd.seq ?_
  refine Cd.region ?_
  by_cases h1 : (kk : Int) < (ths.length : Int)
  · refine Ops.q (q_cmp rfl rfl (c_lt h1)) ?_
    obtain ⟨x2, hx3⟩ : ∃ x, ths[kk]? = some x := ⟨_, List.getElem?_eq_getElem (by omega)⟩
    refine Ops.rowpos .p5 (by omega) ?_
    rintro rb4 rfl
    have hNl : (ns ++ (ths.take kk).map (setTh p)).length ≤ ns.length + kk := by rw [List.length_append, List.length_map, List.length_take]; omega
    refine Ops.to rfl ?_
    refine Cd.seq ?_
    refine Cd.cond_t rfl ?_
    refine Cd.skipTo rfl ?_
    refine Cd.seq ?_
    refine Cd.block ?_
    refine Cd.seq ?_
    refine Cd.region ?_
    refine Ops.q (q_ix (k := kk) esz_31 rfl rfl (by omega)) ?_
    refine Ops.q (q_ldO isA_3 rfl .p5 (fm_at0 eInt_len hx3 rfl)) ?_
    refine Ops.q (q_asg rfl) ?_
    refine Ops.to rfl ?_
    refine Cd.seq ?_
    refine Cd.region ?_
    refine Ops.q (q_ldBN [.int .i64 p.lk, .int .i64 p.leak, .int .i64 p.bias, .int .i64 p.th, .int .i64 p.rk, .int .i64 p.rs, .int .i64 p.fl, .int .i64 p.rest] isA_62 sz_62 rfl .p3 rfl) ?_
    refine Ops.alc [.int .i64 0, .int .i64 0, .int .i64 0, .int .i64 0, .int .i64 0, .int .i64 0, .int .i64 0, .int .i64 0] zc_62 ?_
    intro b5
    refine Ops.stB [.int .i64 p.lk, .int .i64 p.leak, .int .i64 p.bias, .int .i64 p.th, .int .i64 p.rk, .int .i64 p.rs, .int .i64 p.fl, .int .i64 p.rest] [.int .i64 p.lk, .int .i64 p.leak, .int .i64 p.bias, .int .i64 p.th, .int .i64 p.rk, .int .i64 p.rs, .int .i64 p.fl, .int .i64 p.rest] sz_62 rfl rfl rfl (one rfl) .here rfl rfl ?_
    refine Ops.to rfl ?_
    refine Cd.seq ?_
    refine Cd.region ?_
    refine Ops.q (q_mv rfl) ?_
    refine Ops.q (q_fa fo_62_3 rfl) ?_
    refine Ops.stB [.int .i64 x2] [.int .i64 p.lk, .int .i64 p.leak, .int .i64 p.bias, .int .i64 x2, .int .i64 p.rk, .int .i64 p.rs, .int .i64 p.fl, .int .i64 p.rest] sz_3 rfl rfl rfl (one rfl) .here rfl rfl ?_
    refine Ops.to rfl ?_
    refine Cd.draw rfl (by kernel_rfl) (.cons .p5 (.cons (.there .here) (.cons .here .nil))) ?_
    intro F6 St7 hP8 hF9 hR10
    refine Dr.q (i := 0) hP8 rfl (by kernel_rfl) (q_ldB isA_107 rfl .here rfl) ?_
    refine Dr.q (i := 1) hP8 rfl (by kernel_rfl) (q_ldB isA_107 rfl .here rfl) ?_
    refine Dr.q (i := 2) hP8 rfl (by kernel_rfl) (q_nck rfl) ?_
    refine Dr.q (i := 3) hP8 rfl (by kernel_rfl) (q_fa fo_60_0 rfl) ?_
    refine Dr.q (i := 4) hP8 rfl (by kernel_rfl) (q_fa fo_40_0 rfl) ?_
    refine Dr.q (i := 5) hP8 rfl (by kernel_rfl) (q_ldB isA_37 rfl (.there .here) rfl) ?_
    refine Dr.q (i := 6) hP8 rfl (by kernel_rfl) (q_ldBN [.int .i64 p.lk, .int .i64 p.leak, .int .i64 p.bias, .int .i64 x2, .int .i64 p.rk, .int .i64 p.rs, .int .i64 p.fl, .int .i64 p.rest] isA_62 sz_62 rfl .p2 rfl) ?_
    refine Dr.e (i := 7) rfl (by kernel_rfl) ?_
    refine Ops.lit [.int .i64 p.lk, .int .i64 p.leak, .int .i64 p.bias, .int .i64 x2, .int .i64 p.rk, .int .i64 p.rs, .int .i64 p.fl, .int .i64 p.rest] el_37 zsb_62 rfl rfl ⟨by decide, by decide⟩ rfl ?_
    intro b11
    refine Dr.back (fun _ hs => hF9 (.there .here) hs) ?_
    refine Dr.e (i := 8) rfl (by kernel_rfl) ?_
    refine Ops.app (news := [.int .i64 p.lk, .int .i64 p.leak, .int .i64 p.bias, .int .i64 x2, .int .i64 p.rk, .int .i64 p.rs, .int .i64 p.fl, .int .i64 p.rest]) el_37 zsb_62 (by decide) rfl rfl (fun _ hs => hs.ownRo .here) (fun _ hs => (hs.pull .here).drop) (fun _ _ => (.there .here)) rfl (one rfl) (by omega) (by omega) ?_
    intro a12 c13
    refine Dr.back (fun _ hs => hF9 .here hs) ?_
    refine Dr.tail 9 (by kernel_rfl) ?_
    refine Ops.sat ?_ (fun _ hs => hR10 .here hs)
    refine Ops.q (q_nck rfl) ?_
    refine Ops.q (q_fa fo_60_0 rfl) ?_
    refine Ops.q (q_fa fo_40_0 rfl) ?_
    refine Ops.stB [.slice a12 (((ns ++ (ths.take kk).map (setTh p)).length) + 1) c13] [.slice a12 (((ns ++ (ths.take kk).map (setTh p)).length) + 1) c13, .int .i64 ip, .slice sa ss.length sc] sz_37 rfl rfl rfl (one rfl) (.there .here) rfl rfl ?_
    refine Ops.to rfl ?_
    refine Cd.region ?_
    refine Ops.q (q_ar rfl rfl (a_inc (by omega))) ?_
    refine Ops.q (q_mv rfl) ?_
    refine Ops.rnd ((kk + 1, a12, c13)) rfl (by dsimp only; exact (by omega)) (by dsimp only; omega) ⟨rfl, rfl, rfl, rfl, rfl, trivial⟩ (fun _ hs => by have h1 := (((((((hs.pull .p6).pull (.there .here)).pull .p6).pull .p6).pull .p6).pull .p5).pull .p6).drop; dsimp only; rw [gl_app hx3, gl_len hx3, fm_app]; exact h1) 
  · refine Ops.q (q_cmp rfl rfl (c_nlt (by omega))) ?_
    refine Ops.to rfl ?_
    refine Cd.seq ?_
    refine Cd.cond_f rfl ?_
    refine Cd.exitFin (fn := Tryz.f48) (by with_reducible repeat (first | exact xq_here | apply xq_then | apply xq_block | apply nq_block)) rfl ?_
    intro w' hs'
    have hk : ths.take kk = ths := List.take_of_length_le (by omega)
    rw [hk] at hs'
    exact ⟨(pa, pc), rfl, hs'⟩
end Go.Proofs.YtilcdghliigngaaGreatDoor
namespace Go.Proofs.YtilcdghliigngaaGreatDoor
open Go.RowKit Go.Proofs.YtilcdghliigngaaGreatDoorGl Go.Proofs.YtilcdghliigngaaGreatDoorPm
set_option linter.unusedVariables false
set_option linter.unusedSimpArgs false
def RetR (r : Except Int NetP) (w : World) (e : Ending) (w' : World) : Prop :=
  match r with
  | .ok N => ∃ (p q : Option Addr × Nat), e = .returned (.tuple #[.agg #[.slice p.1 N.ns.length p.2, .int .i64 N.inp, .slice q.1 N.ss.length q.2], .int .i64 0]) ∧ Sat w w' [row p.1 p.2 62 8 N.ns.length (N.ns.flatMap ePrm), row q.1 q.2 109 4 N.ss.length (N.ss.flatMap eSyn)]
  | .error c => e = .returned (.tuple #[.agg #[.slice none 0 0, .int .i64 0, .slice none 0 0], .int .i64 c]) ∧ Sat w w' []
theorem rg_app {α : Type} (f : Nat → α) (k : Nat) : (List.range (k + 1)).map f = (List.range k).map f ++ [f k] := by rw [List.range_succ, List.map_append]; rfl
theorem rg_len {α : Type} (f : Nat → α) (k : Nat) : ((List.range k).map f).length = k := by simp
theorem rf_app {α : Type} (f : Nat → List α) (k : Nat) : (List.range (k + 1)).flatMap f = (List.range k).flatMap f ++ f k := by rw [List.range_succ, List.flatMap_append]; simp
theorem rf_len {α : Type} {f : Nat → List α} {c : Nat} (h : ∀ i, (f i).length = c) : ∀ k, ((List.range k).flatMap f).length = k * c
  | 0 => by simp
  | k + 1 => by rw [rf_app, List.length_append, rf_len h k, h, Nat.succ_mul]
end Go.Proofs.YtilcdghliigngaaGreatDoor
namespace Go.Proofs.YtilcdghliigngaaGreatDoor
open Go.RowKit Go.Proofs.YtilcdghliigngaaGreatDoorGl Go.Proofs.YtilcdghliigngaaGreatDoorPm
set_option linter.unusedVariables false
set_option linter.unusedSimpArgs false
theorem sumI_fm {α β : Type} (f : β → Int) (g : α → List β) : ∀ (xs : List α), sumI f (xs.flatMap g) = sumI (fun x => sumI f (g x)) xs
  | [] => rfl
  | x :: xs => by rw [List.flatMap_cons, sumI_app, sumI_fm f g xs, sumI]
theorem sumI_range_one {f : Nat → Int} {d : Nat} (h : ∀ j, j ≠ d → f j = 0) : ∀ m, sumI f (List.range m) = if d < m then f d else 0
  | 0 => by simp [sumI]
  | m + 1 => by
    rw [List.range_succ, sumI_app, sumI_range_one h m]
    simp only [sumI]
    by_cases c : d < m
    · rw [if_pos c, if_pos (by omega), h m (by omega)]; omega
    · rw [if_neg c]
      by_cases e : m = d
      · subst e; rw [if_pos (by omega)]; omega
      · rw [if_neg (by omega), h m e]; omega
theorem firstE_all {α : Type} {f : α → Int} : ∀ {xs : List α}, (∀ x ∈ xs, f x = 0) → firstE f xs = 0
  | [], _ => rfl
  | x :: xs, h => by rw [firstE, if_pos (h x (.head _))]; exact firstE_all (fun y hy => h y (.tail _ hy))
theorem evF_app (idl : Nat → List Int) : ∀ (f now : Nat), evF idl now (f + 1) = evF idl now f ++ (idl (now + f)).map (fun i => (⟨((now + f : Nat) : Int), i⟩ : Evt))
  | 0, now => by simp [evF]
  | f + 1, now => by
    rw [evF, evF_app idl f (now + 1), evF, List.append_assoc, show now + 1 + f = now + (f + 1) by omega]
theorem evF_more {idl : Nat → List Int} {T : Nat} (h : ∀ t, T ≤ t → idl t = []) : ∀ f, evF idl 0 (T + f) = evF idl 0 T
  | 0 => rfl
  | f + 1 => by rw [← Nat.add_assoc, evF_app, evF_more h f, Nat.zero_add, h (T + f) (by omega)]; simp
section
variable (n : Nat) (tk : Nat → Nat)
variable {n tk}
end
end Go.Proofs.YtilcdghliigngaaGreatDoor
namespace Go.Proofs.YtilcdghliigngaaGreatDoor
open Go.RowKit Go.Proofs.YtilcdghliigngaaGreatDoorGl Go.Proofs.YtilcdghliigngaaGreatDoorPm
set_option linter.unusedVariables false
set_option linter.unusedSimpArgs false
end Go.Proofs.YtilcdghliigngaaGreatDoor
namespace Go.Proofs.YtilcdghliigngaaGreatDoor
open Go.RowKit Go.Proofs.YtilcdghliigngaaGreatDoorGl Go.Proofs.YtilcdghliigngaaGreatDoorPm
set_option linter.unusedVariables false
set_option linter.unusedSimpArgs false
section
variable {P : Program} {w0 : World} {n : Nat} {D : List Deferred} {L : Env} {A : List Atom}
end
end Go.Proofs.YtilcdghliigngaaGreatDoor
namespace Go.Proofs.YtilcdghliigngaaGreatDoor
open Go.RowKit Go.Proofs.YtilcdghliigngaaGreatDoorGl Go.Proofs.YtilcdghliigngaaGreatDoorPm
set_option linter.unusedVariables false
set_option linter.unusedSimpArgs false
theorem run_some (na : Option Addr) (nc : Nat) (sa : Option Addr) (sc : Nat) (ns : List Prm) (ip : Int) (ss : List Syn) (ea : Option Addr) (ec : Nat) (evs : List Evt) (t : Int) (w : World) (hN : RoL w na ePrm ns) (hS : RoL w sa eSyn ss) (hE : RoL w ea eEvt evs) (hec : evs.length ≤ ec) (out : List Evt) (hp : preparedE ⟨ns, ip, ss⟩ evs t 10000 = 0) (hr : runN ⟨ns, ip, ss⟩ evs t.toNat = some out) : Calls Tryz.prog 93 [.agg [.slice na ns.length nc, .int .i64 ip, .slice sa ss.length sc].toArray, .slice ea evs.length ec, .int .i64 t].toArray w fun e w' =>  ∃ p : Option Addr × Nat, e = .returned (.tuple [.slice p.1 out.length p.2, .int .i64 0].toArray) ∧ Sat w w' [row p.1 p.2 70 2 out.length (out.flatMap eEvt)] :=
  (run_c na nc sa sc ns ip ss ea ec evs t w hN hS hE hec).mono fun e w' h => by rw [if_neg (by simpa using hp), hr] at h; exact h
end Go.Proofs.YtilcdghliigngaaGreatDoor
namespace Go.Proofs.YtilcdghliigngaaGreatDoor
open Go.RowKit Go.Proofs.YtilcdghliigngaaGreatDoorGl Go.Proofs.YtilcdghliigngaaGreatDoorPm
set_option linter.unusedVariables false
set_option linter.unusedSimpArgs false
theorem bT {k : FuncId} {vs : Array Value} {w0 w : World} {A : List Atom} {p : Prop} [Decidable p] (hc : Calls Tryz.prog k vs w fun e w' => e = .returned (.bool (decide p)) ∧ Sat w0 w' A) (h : p) : Calls Tryz.prog k vs w fun e w' => ∃ _ : Unit, e = .returned (.bool true) ∧ Sat w0 w' A :=
  hc.mono fun e w' h2 => ⟨(), by rw [h2.1, decide_eq_true h], h2.2⟩
theorem bF {k : FuncId} {vs : Array Value} {w0 w : World} {A : List Atom} {p : Prop} [Decidable p] (hc : Calls Tryz.prog k vs w fun e w' => e = .returned (.bool (decide p)) ∧ Sat w0 w' A) (h : ¬ p) : Calls Tryz.prog k vs w fun e w' => ∃ _ : Unit, e = .returned (.bool false) ∧ Sat w0 w' A :=
  hc.mono fun e w' h2 => ⟨(), by rw [h2.1, decide_eq_false h], h2.2⟩
theorem below_c (n : Int) (w : World) : Calls Tryz.prog 46 [.int .i64 n].toArray w fun e w' => ∃ b : Nat, e = .returned (.func (.func 86) #[] #[.pointer (some ⟨b, 0, none⟩)]) ∧ Sat w w' [blk b 3 [.int .i64 n]] := by
  refine fstart Tryz.func46 rfl rfl (Sat.nil w) ?_
  refine Cd.seq ?_
  refine Cd.region ?_
  refine Ops.box [.int .i64 n] rfl rfl ?_
  intro b1
  refine Ops.q (q_asg rfl) ?_
  refine Ops.to rfl ?_
  refine Cd.seq ?_
  refine Cd.region ?_
  refine Ops.q (q_mkf rfl rfl) ?_
  refine Ops.q (q_asg rfl) ?_
  refine Ops.to rfl ?_
  refine Cd.rt (fn := Tryz.f46) [.func (.func 86) #[] #[.pointer (some ⟨b1, 0, none⟩)]] (by with_reducible repeat (first | exact rq_here | apply rq_then | apply rq_block)) rfl ⟨rfl, trivial⟩ ?_
  intro w' hs
  exact ⟨b1, rfl, hs⟩
theorem below1_c (b : Nat) (x n : Int) (w0 w : World) (F : List Atom) (hn : -1000000 ≤ n ∧ n ≤ 1000000) (hs : Sat w0 w (blk b 3 [.int .i64 n] :: F)) : Calls Tryz.prog 86 [.int .i64 x, .pointer (some ⟨b, 0, none⟩)].toArray w fun e w' => e = .returned (.bool (decide (wi x 0 (n - 1)))) ∧ Sat w0 w' (blk b 3 [.int .i64 n] :: F) := by
  refine fstart Tryz.func86 rfl rfl hs ?_
  refine Cd.seq ?_
  refine Cd.region ?_
  refine Ops.q (q_asg rfl) ?_
  refine Ops.to rfl ?_
  refine Cd.seq ?_
  refine Cd.region ?_
  refine Ops.q (q_mv rfl) ?_
  refine Ops.q (q_ldB isA_3 rfl .here rfl) ?_
  refine Ops.q (q_ar rfl rfl (a_sub (by omega))) ?_
  refine Ops.cp en_19 rfl (fun w hs => in_c _ _ _ w) ?_
  refine Ops.q (q_asg rfl) ?_
  refine Ops.to rfl ?_
  refine Cd.rt (fn := Tryz.f86) [.bool (decide (wi x 0 (n - 1)))] (by with_reducible repeat (first | exact rq_here | apply rq_then | apply rq_block)) rfl ⟨rfl, trivial⟩ ?_
  intro w' hs'
  exact ⟨rfl, hs'⟩
end Go.Proofs.YtilcdghliigngaaGreatDoor
namespace Go.Proofs.YtilcdghliigngaaGreatDoor
open Go.RowKit Go.Proofs.YtilcdghliigngaaGreatDoorGl Go.Proofs.YtilcdghliigngaaGreatDoorPm
set_option linter.unusedVariables false
set_option linter.unusedSimpArgs false
theorem u64_in {y : Int} (h : 0 ≤ y ∧ y < 4294967296) : IntKind.u64.wrap y = y := by
  simp [IntKind.wrap, IntKind.bits, IntKind.signed]; omega
theorem and_mask {y : Int} (h : 0 ≤ y ∧ y < 4294967296) : IntKind.u64.wrap ((BitVec.ofInt IntKind.u64.bits y &&& BitVec.ofInt IntKind.u64.bits 4294967295).toNat : Int) = y := by
  obtain ⟨m, rfl⟩ : ∃ m : Nat, y = (m : Int) := ⟨y.toNat, by omega⟩
  have e1 : (BitVec.ofInt IntKind.u64.bits (m : Int)).toNat = m := by
    simp [IntKind.bits, BitVec.toNat_ofInt]; omega
  have e2 : (BitVec.ofInt IntKind.u64.bits 4294967295).toNat = 2 ^ 32 - 1 := by rfl
  rw [BitVec.toNat_and, e1, e2, Nat.and_two_pow_sub_one_eq_mod, Nat.mod_eq_of_lt (by omega)]
  exact u64_in (by omega)
theorem shr32 {y : Int} (h : 0 ≤ y ∧ y < 4294967296) : y.fdiv (2 ^ min 32 IntKind.u64.bits) = 0 := by
  have e : (2 : Int) ^ min 32 IntKind.u64.bits = 4294967296 := by rfl
  rw [e, Int.fdiv_eq_ediv_of_nonneg _ (by omega)]; omega
theorem mul1u {y : Int} (h : 0 ≤ y ∧ y < 4294967296) : arV .mul .u64 1 y = some y := by
  simp only [arV, Int.one_mul, u64_in h]
theorem mul0u {y : Int} : arV .mul .u64 0 y = some 0 := by
  simp only [arV, Int.zero_mul]; rfl
theorem Ro.pre {w : World} {a : Option Addr} {cs ds : List Value} (h : Ro w a (cs ++ ds)) : Ro w a cs := fun j u hu => h j u (by rw [List.getElem?_append_left (List.getElem?_eq_some_iff.1 hu).1]; exact hu)
theorem eInt_map (xs : List Int) : xs.flatMap eInt = xs.map (.int .i64) := by
  induction xs with
  | nil => rfl
  | cons x xs ih => rw [List.flatMap_cons, ih]; rfl
def fillR (v : Int) (n k : Nat) : List Int := List.replicate k v ++ List.replicate (n - k) 0
theorem fillR_step (v : Int) {n k j : Nat} (hk : k + j ≤ n) (o : Nat) (ho : o = k) : ((fillR v n k).flatMap eInt).take o ++ ((List.replicate j v).flatMap eInt) ++ ((fillR v n k).flatMap eInt).drop (o + ((List.replicate j v).flatMap eInt).length) = (fillR v n (k + j)).flatMap eInt := by
  subst ho
  simp only [eInt_map, fillR, List.map_append, List.map_replicate, List.length_replicate]
  obtain ⟨q, hq⟩ : ∃ q, n - o = j + q := ⟨n - o - j, by omega⟩
  have hq2 : n - (o + j) = q := by omega
  rw [hq, hq2, List.take_append_of_le_length (by simp), List.take_of_length_le (by simp), List.drop_append, List.drop_of_length_le (by simp)]
  simp
  try rw [← List.append_assoc, List.replicate_append_replicate]
theorem fillR_full (v : Int) {n k : Nat} (h : k = n) : fillR v n k = List.replicate n v := by
  subst h; simp [fillR]
theorem fillR_pre (v : Int) {n k j : Nat} (hj : j ≤ k) : ∃ ds, (fillR v n k).flatMap eInt = (List.replicate j v).flatMap eInt ++ ds := by
  obtain ⟨q, rfl⟩ : ∃ q, k = j + q := ⟨k - j, by omega⟩
  refine ⟨(List.replicate q v ++ List.replicate (n - (j + q)) 0).flatMap eInt, ?_⟩
  rw [← List.flatMap_append, ← List.append_assoc, List.replicate_append_replicate]; rfl
theorem rep_fill (v : Int) (n : Nat) : rep n [Value.int .i64 0] = (fillR v n 0).flatMap eInt := by rw [rep_int]; rfl
theorem mul64_c (y : Int) (w : World) (hy : 0 ≤ y ∧ y < 4294967296) : Calls Tryz.prog 89 [.int .u64 1, .int .u64 y].toArray w fun e w' => e = .returned (.tuple [.int .u64 0, .int .u64 y].toArray) ∧ Sat w w' [] := by
  refine fstart Tryz.func89 rfl rfl (Sat.nil w) ?_
  refine Cd.seq ?_
  refine Cd.region ?_
  refine Ops.q (q_asg rfl) ?_
  refine Ops.q (q_asg rfl) ?_
  refine Ops.to rfl ?_
  refine Cd.seq ?_
  refine Cd.region ?_
  refine Ops.q (q_mv rfl) ?_
  refine Ops.q (q_and rfl rfl (rfl)) ?_
  refine Ops.q (q_asg rfl) ?_
  refine Ops.to rfl ?_
  refine Cd.seq ?_
  refine Cd.region ?_
  refine Ops.q (q_mv rfl) ?_
  refine Ops.q (q_shr (j := 32) rfl rfl (rfl)) ?_
  refine Ops.q (q_asg rfl) ?_
  refine Ops.to rfl ?_
  refine Cd.seq ?_
  refine Cd.region ?_
  refine Ops.q (q_mv rfl) ?_
  refine Ops.q (q_and rfl rfl (and_mask hy)) ?_
  refine Ops.q (q_asg rfl) ?_
  refine Ops.to rfl ?_
  refine Cd.seq ?_
  refine Cd.region ?_
  refine Ops.q (q_mv rfl) ?_
  refine Ops.q (q_shr (j := 32) rfl rfl (shr32 hy)) ?_
  refine Ops.q (q_asg rfl) ?_
  refine Ops.to rfl ?_
  refine Cd.seq ?_
  refine Cd.region ?_
  refine Ops.q (q_mv rfl) ?_
  refine Ops.q (q_mv rfl) ?_
  refine Ops.q (q_ar rfl rfl (mul1u hy)) ?_
  refine Ops.q (q_asg rfl) ?_
  refine Ops.to rfl ?_
  refine Cd.seq ?_
  refine Cd.region ?_
  refine Ops.q (q_mv rfl) ?_
  refine Ops.q (q_mv rfl) ?_
  refine Ops.q (q_ar rfl rfl (mul0u)) ?_
  refine Ops.q (q_mv rfl) ?_
  refine Ops.q (q_shr (j := 32) rfl rfl (shr32 hy)) ?_
  refine Ops.q (q_ar rfl rfl (rfl)) ?_
  refine Ops.q (q_asg rfl) ?_
  refine Ops.to rfl ?_
  refine Cd.seq ?_
  refine Cd.region ?_
  refine Ops.q (q_mv rfl) ?_
  refine Ops.q (q_and rfl rfl (rfl)) ?_
  refine Ops.q (q_asg rfl) ?_
  refine Ops.to rfl ?_
  refine Cd.seq ?_
  refine Cd.region ?_
  refine Ops.q (q_mv rfl) ?_
  refine Ops.q (q_shr (j := 32) rfl rfl (rfl)) ?_
  refine Ops.q (q_asg rfl) ?_
  refine Ops.to rfl ?_
  refine Cd.seq ?_
  refine Cd.region ?_
  refine Ops.q (q_mv rfl) ?_
  refine Ops.q (q_mv rfl) ?_
  refine Ops.q (q_mv rfl) ?_
  refine Ops.q (q_ar rfl rfl (rfl)) ?_
  refine Ops.q (q_ar rfl rfl (rfl)) ?_
  refine Ops.q (q_asg rfl) ?_
  refine Ops.to rfl ?_
  refine Cd.seq ?_
  refine Cd.region ?_
  refine Ops.q (q_mv rfl) ?_
  refine Ops.q (q_mv rfl) ?_
  refine Ops.q (q_ar rfl rfl (rfl)) ?_
  refine Ops.q (q_mv rfl) ?_
  refine Ops.q (q_ar rfl rfl (rfl)) ?_
  refine Ops.q (q_mv rfl) ?_
  refine Ops.q (q_shr (j := 32) rfl rfl (rfl)) ?_
  refine Ops.q (q_ar rfl rfl (rfl)) ?_
  refine Ops.q (q_asg rfl) ?_
  refine Ops.to rfl ?_
  refine Cd.seq ?_
  refine Cd.region ?_
  refine Ops.q (q_mv rfl) ?_
  refine Ops.q (q_mv rfl) ?_
  refine Ops.q (q_ar rfl rfl (mul1u hy)) ?_
  refine Ops.q (q_asg rfl) ?_
  refine Ops.to rfl ?_
  refine Cd.rt (fn := Tryz.f89) [.int .u64 0, .int .u64 y] (by with_reducible repeat (first | exact rq_here | apply rq_then | apply rq_block)) rfl ⟨rfl, rfl, trivial⟩ ?_
  intro w' hs
  exact ⟨rfl, hs.none⟩
theorem mul_c (y : Int) (w : World) (hy : 0 ≤ y ∧ y < 4294967296) : Calls Tryz.prog 49 [.int .u64 1, .int .u64 y].toArray w fun e w' => e = .returned (.tuple [.int .u64 0, .int .u64 y].toArray) ∧ Sat w w' [] := by
  refine fstart Tryz.func49 rfl rfl (Sat.nil w) ?_
  refine Cd.seq ?_
  refine Cd.region ?_
  refine Ops.q (q_asg rfl) ?_
  refine Ops.q (q_asg rfl) ?_
  refine Ops.to rfl ?_
  refine Cd.seq ?_
  refine Cd.cond_f rfl ?_
  refine Cd.skipTo rfl ?_
  refine Cd.seq ?_
  refine Cd.region ?_
  refine Ops.q (q_mv rfl) ?_
  refine Ops.q (q_mv rfl) ?_
  refine Ops.cp en_89 rfl (fun w hs => mul64_c y w hy) ?_
  refine Ops.q (q_mv rfl) ?_
  refine Ops.q (q_ext rfl rfl) ?_
  refine Ops.q (q_ext rfl rfl) ?_
  refine Ops.q (q_asg rfl) ?_
  refine Ops.q (q_asg rfl) ?_
  refine Ops.to rfl ?_
  refine Cd.seq ?_
  refine Cd.region ?_
  refine Ops.q (q_mv rfl) ?_
  refine Ops.q (q_mv rfl) ?_
  refine Ops.q (q_asg rfl) ?_
  refine Ops.q (q_asg rfl) ?_
  refine Ops.to rfl ?_
  refine Cd.rt (fn := Tryz.f49) [.int .u64 0, .int .u64 y] (by with_reducible repeat (first | exact rq_here | apply rq_then | apply rq_block)) rfl ⟨rfl, rfl, trivial⟩ ?_
  intro w' hs
  exact ⟨rfl, hs.none⟩
theorem repeat_c (xb : Nat) (v : Int) (n : Nat) (w0 w : World) (F : List Atom) (hn : 1 ≤ n ∧ n ≤ 100000) (hs : Sat w0 w (row (some ⟨xb, 0, none⟩) 1 3 1 1 [.int .i64 v] :: F)) : Calls Tryz.prog 18 [.slice (some ⟨xb, 0, none⟩) 1 1, .int .i64 (n : Int)].toArray w fun e w' => ∃ p : Option Addr × Nat, e = .returned (.slice p.1 n p.2) ∧ Sat w0 w' (row p.1 p.2 3 1 n ((List.replicate n v).flatMap eInt) :: row (some ⟨xb, 0, none⟩) 1 3 1 1 [.int .i64 v] :: F) := by
  refine fstart Tryz.func18 rfl rfl hs ?_
  refine Cd.seq ?_
  refine Cd.region ?_
  refine Ops.q (q_asg rfl) ?_
  refine Ops.to rfl ?_
  refine Cd.seq ?_
  refine Cd.seq ?_
  refine Cd.region ?_
  refine Ops.q (q_mv rfl) ?_
  refine Ops.q (q_cmp rfl rfl (c_nlt (by omega))) ?_
  refine Ops.to rfl ?_
  refine Cd.cond_f rfl ?_
  refine Cd.skipTo rfl ?_
  refine Cd.seq ?_
  refine Cd.region ?_
  refine Ops.q (q_mv rfl) ?_
  refine Ops.q (q_len esz_31 rfl) ?_
  refine Ops.q (q_conv iK_3 iK_110 rfl (rfl)) ?_
  refine Ops.q (q_mv rfl) ?_
  refine Ops.q (q_conv iK_3 iK_110 rfl (u64_in (by omega))) ?_
  refine Ops.cp en_49 rfl (fun w hs => mul_c (n : Int) w (by omega)) ?_
  refine Ops.q (q_mv rfl) ?_
  refine Ops.q (q_ext rfl rfl) ?_
  refine Ops.q (q_ext rfl rfl) ?_
  refine Ops.q (q_asg rfl) ?_
  refine Ops.q (q_asg rfl) ?_
  refine Ops.to rfl ?_
  refine Cd.seq ?_
  refine Cd.seq ?_
  refine Cd.region ?_
  refine Ops.q (q_mv rfl) ?_
  refine Ops.q (q_cmp rfl rfl (c_ngt (by omega))) ?_
  refine Ops.q (q_mv rfl) ?_
  refine Ops.q (q_mv rfl) ?_
  refine Ops.q (q_cmp rfl rfl (c_ngt (by omega))) ?_
  refine Ops.q (q_pickF rfl rfl) ?_
  refine Ops.to rfl ?_
  refine Cd.cond_f rfl ?_
  refine Cd.skipTo rfl ?_
  refine Cd.seq ?_
  refine Cd.region ?_
  refine Ops.q (q_mv rfl) ?_
  refine Ops.q (q_conv iK_110 iK_3 rfl (IntWalk.i64_in _ (by omega))) ?_
  refine Ops.mks (m := n) el_31 zsb_3 rfl rfl (by omega) (by omega) ?_
  intro b1
  refine Ops.q (q_asg rfl) ?_
  refine Ops.to rfl ?_
  refine Cd.seq ?_
  refine Cd.region ?_
  refine Ops.q (q_mv rfl) ?_
  refine Ops.q (q_mv rfl) ?_
  refine Ops.cpy (news := (List.replicate 1 v).flatMap eInt) (cs' := (fillR v n (0 + 1)).flatMap eInt) el_31 sz_3 rfl rfl (show min 1 n = 1 by omega) (fun _ hs => hs.ownRo (.there .here)) rfl (fm_one eInt_one _) .here (by rw [rep_length]; simp [eInt]; omega) (by rw [rep_fill v]; exact fillR_step v (by omega) 0 rfl) ?_
  refine Ops.q (q_asg rfl) ?_
  refine Ops.to rfl ?_
  refine Cd.seq ?_
  refine Cd.block ?_
  refine Cd.lp (σ := Nat) (fun kk => 1 ≤ kk ∧ kk ≤ n) (fun kk => [(7, .slice (some ⟨b1, 0, none⟩) n n), (8, .int .i64 (kk : Int))]) (fun kk => row (some ⟨b1, 0, none⟩) n 3 1 n ((fillR v n kk).flatMap eInt) :: row (some ⟨xb, 0, none⟩) 1 3 1 1 [.int .i64 v] :: F) (fun kk => n - kk) (0 + 1) ⟨by omega, by omega⟩ ⟨rfl, rfl, trivial⟩ (fun _ hs => by have h1 := ((hs.pull (.there .here)).pull (.there .here)); exact h1) ?_
  intro kk hI
  refine Cd.seq ?_
  refine Cd.seq ?_
  refine Cd.region ?_
  refine Ops.q (q_mv rfl) ?_
  refine Ops.q (q_mv rfl) ?_
  refine Ops.q (q_len esz_31 rfl) ?_
  by_cases hk : (kk : Int) < (n : Int)
  · refine Ops.q (q_cmp rfl rfl (c_lt hk)) ?_
    refine Ops.to rfl ?_
    refine Cd.cond_t rfl ?_
    refine Cd.skipTo rfl ?_
    refine Cd.block ?_
    refine Cd.draw rfl (by kernel_rfl) .nil ?_
    intro F2 St3 hP4 hF5 hR6
    refine Dr.q (i := 0) hP4 rfl (by kernel_rfl) (q_mv rfl) ?_
    refine Dr.q (i := 1) hP4 rfl (by kernel_rfl) (q_mv rfl) ?_
    refine Dr.q (i := 2) hP4 rfl (by kernel_rfl) (q_mv rfl) ?_
    refine Dr.q (i := 3) hP4 rfl (by kernel_rfl) (q_cutP (k := kk) el_31 sz_3 rfl rfl (by omega) (by omega)) ?_
    refine Dr.q (i := 4) hP4 rfl (by kernel_rfl) (q_mv rfl) ?_
    refine Dr.q (i := 5) hP4 rfl (by kernel_rfl) (q_mv rfl) ?_
    refine Dr.q (i := 6) hP4 rfl (by kernel_rfl) (q_cutHP (k := kk) el_31 sz_3 rfl rfl (by omega)) ?_
    refine Dr.e (i := 7) rfl (by kernel_rfl) ?_
    refine Ops.cpy (news := (List.replicate (min kk (n - kk)) v).flatMap eInt) (cs' := (fillR v n (kk + (min kk (n - kk)))).flatMap eInt) (k := (min kk (n - kk))) el_31 sz_3 rfl rfl rfl (fun _ hs => by have h1 := hs.ownRo (.there .here); obtain ⟨ds, hds⟩ := fillR_pre v (n := n) (k := kk) (j := (min kk (n - kk))) (by omega); rw [hds] at h1; exact Ro.pre h1) (by rw [fm_length eInt_len, List.length_replicate]) (fm_one eInt_one _) (.there .here) (by rw [fm_length eInt_len, fm_length eInt_len]; simp [fillR]; omega) (fillR_step v (by omega) _ (by omega)) ?_
    refine Dr.back (fun _ hs => hF5 .here hs) ?_
    refine Dr.q (i := 8) hP4 rfl (by kernel_rfl) (q_ar rfl rfl ((by rw [a_add (by omega)]))) ?_
    refine Dr.tail 9 (by kernel_rfl) ?_
    refine Ops.sat ?_ (fun _ hs => hR6 .here hs)
    refine Ops.q (q_asg rfl) ?_
    refine Ops.rnd (kk + min kk (n - kk)) rfl (⟨by omega, by omega⟩) (by omega) ⟨rfl, rfl, trivial⟩ (fun _ hs => ((hs.pull (.there .here)).pull (.there .here))) 
  · refine Ops.q (q_cmp rfl rfl (c_nlt (by omega))) ?_
    refine Ops.to rfl ?_
    refine Cd.cond_f rfl ?_
    refine Cd.exitTo rfl ?_
    refine Cd.seq ?_
    refine Cd.region ?_
    refine Ops.q (q_mv rfl) ?_
    refine Ops.q (q_asg rfl) ?_
    refine Ops.to rfl ?_
    refine Cd.rt (fn := Tryz.f18) [.slice (some ⟨b1, 0, none⟩) n n] (by with_reducible repeat (first | exact rq_here | apply rq_then | apply rq_block)) rfl ⟨rfl, trivial⟩ ?_
    intro w' hs'
    rw [fillR_full v (show kk = n by omega)] at hs'
    exact ⟨(some ⟨b1, 0, none⟩, n), rfl, ((hs'.pull (.there .here)).pull (.there .here))⟩
end Go.Proofs.YtilcdghliigngaaGreatDoor
namespace Go.Proofs.YtilcdghliigngaaGreatDoor
open Go.RowKit Go.Proofs.YtilcdghliigngaaGreatDoorGl Go.Proofs.YtilcdghliigngaaGreatDoorPm
set_option linter.unusedVariables false
set_option linter.unusedSimpArgs false
theorem repeat_l (xb : Nat) (v : Int) (n : Nat) (w0 w : World) (F : List Atom) (hn : 1 ≤ n ∧ n ≤ 100000) (hs : Sat w0 w (row (some ⟨xb, 0, none⟩) 1 3 1 1 [.int .i64 v] :: F)) : Calls Tryz.prog 18 [.slice (some ⟨xb, 0, none⟩) 1 1, .int .i64 (n : Int)].toArray w fun e w' => ∃ p : Option Addr × Nat, e = .returned (.slice p.1 (List.replicate n v).length p.2) ∧ Sat w0 w' (row p.1 p.2 3 1 (List.replicate n v).length ((List.replicate n v).flatMap eInt) :: row (some ⟨xb, 0, none⟩) 1 3 1 1 [.int .i64 v] :: F) := by
  rw [List.length_replicate]; exact repeat_c xb v n w0 w F hn hs
end Go.Proofs.YtilcdghliigngaaGreatDoor
namespace Go.Proofs.YtilcdghliigngaaGreatDoor
open Go.RowKit Go.Proofs.YtilcdghliigngaaGreatDoorGl Go.Proofs.YtilcdghliigngaaGreatDoorPm
set_option linter.unusedVariables false
set_option linter.unusedSimpArgs false
end Go.Proofs.YtilcdghliigngaaGreatDoor
namespace Go.Proofs.YtilcdghliigngaaGreatDoor
open Go.RowKit Go.Proofs.YtilcdghliigngaaGreatDoorGl Go.Proofs.YtilcdghliigngaaGreatDoorPm
set_option linter.unusedVariables false
set_option linter.unusedSimpArgs false
end Go.Proofs.YtilcdghliigngaaGreatDoor
namespace Go.Proofs.YtilcdghliigngaaGreatDoor
open Go.RowKit Go.Proofs.YtilcdghliigngaaGreatDoorGl Go.Proofs.YtilcdghliigngaaGreatDoorPm
set_option linter.unusedVariables false
set_option linter.unusedSimpArgs false
def befOk (ds : List Int) (e : Edg) : Prop := 0 ≤ ds.getD e.src.toNat 0 ∧ ds.getD e.src.toNat 0 < ds.getD e.dst.toNat 0 ∧ IntKind.i64.wrap (ds.getD e.dst.toNat 0 - ds.getD e.src.toNat 0) = e.len
instance (ds : List Int) (e : Edg) : Decidable (befOk ds e) := inferInstanceAs (Decidable (_ ∧ _ ∧ _))
end Go.Proofs.YtilcdghliigngaaGreatDoor
namespace Go.Proofs.YtilcdghliigngaaGreatDoor
open Go.RowKit Go.Proofs.YtilcdghliigngaaGreatDoorGl Go.Proofs.YtilcdghliigngaaGreatDoorPm
set_option linter.unusedVariables false
set_option linter.unusedSimpArgs false
abbrev NL := (Option Addr × Nat) × List Int
def eNL (l : NL) : List Value := [.slice l.1.1 l.2.length l.1.2]
theorem eNL_len (l : NL) : (eNL l).length = 1 := rfl
def RoLL (w : World) (a : Option Addr) (ls : List NL) : Prop := RoL w a eNL ls ∧ ∀ l ∈ ls, RoL w l.1.1 eInt l.2
theorem RoLL.later {w w' : World} {a : Option Addr} {ls : List NL} (h : RoLL w a ls) (hb : Below w.heap.size w w') : RoLL w' a ls := ⟨RoL.later h.1 hb, fun l hl => RoL.later (h.2 l hl) hb⟩
theorem acheck1_c (b nb no nc : Nat) (ls : List NL) (st : Int) (aa : Option Addr) (al ac : Nat) (l0 : NL) (ra : Option Addr) (rl rc : Nat) (w0 w : World) (F : List Atom) (hL : RoLL w0 (some ⟨nb, no, none⟩) ls) (hl0 : ls[0]? = some l0) (h0 : 0 < ls.length) (hs : Sat w0 w (blk b 29 [.slice (some ⟨nb, no, none⟩) ls.length nc, .int .i64 st, .slice aa al ac] :: F)) :
    Calls Tryz.prog 45 [.slice ra rl rc, .pointer (some ⟨b, 0, none⟩)].toArray w fun e w' => e = .returned (.bool (decide (¬ rl = l0.2.length))) ∧ Sat w0 w' (blk b 29 [.slice (some ⟨nb, no, none⟩) ls.length nc, .int .i64 st, .slice aa al ac] :: F) := by
  refine fstart Tryz.func45 rfl rfl hs ?_
  refine Cd.seq ?_
  refine Cd.region ?_
  refine Ops.q (q_asg rfl) ?_
  refine Ops.to rfl ?_
  refine Cd.seq ?_
  refine Cd.region ?_
  refine Ops.q (q_mv rfl) ?_
  refine Ops.q (q_len esz_31 rfl) ?_
  refine Ops.q (q_fa fo_29_0 rfl) ?_
  refine Ops.q (q_ldB isA_26 rfl .here rfl) ?_
  refine Ops.q (q_ix (k := 0) esz_26 rfl rfl (by omega)) ?_
  refine Ops.q (q_ldR isA_31 rfl (hL.1.at0 eNL_len hl0 rfl)) ?_
  refine Ops.q (q_len esz_31 rfl) ?_
  by_cases h1 : (rl : Int) = (l0.2.length : Int)
  · refine Ops.q (q_cmp rfl rfl (c_nne h1)) ?_
    refine Ops.q (q_asg rfl) ?_
    refine Ops.to rfl ?_
    refine Cd.rt (fn := Tryz.f45) [.bool false] (by with_reducible repeat (first | exact rq_here | apply rq_then | apply rq_block)) rfl ⟨rfl, trivial⟩ ?_
    intro w' hs'
    exact ⟨ebool (by simp; try omega), hs'⟩
  · refine Ops.q (q_cmp rfl rfl (c_ne h1)) ?_
    refine Ops.q (q_asg rfl) ?_
    refine Ops.to rfl ?_
    refine Cd.rt (fn := Tryz.f45) [.bool true] (by with_reducible repeat (first | exact rq_here | apply rq_then | apply rq_block)) rfl ⟨rfl, trivial⟩ ?_
    intro w' hs'
    exact ⟨ebool (by simp; try omega), hs'⟩
theorem indexFunc_c (b nb no nc : Nat) (ls : List NL) (st : Int) (aa : Option Addr) (al ac : Nat) (l0 : NL) (w0 w : World) (F : List Atom) (hL : RoLL w0 (some ⟨nb, no, none⟩) ls) (hl0 : ls[0]? = some l0) (h0 : 0 < ls.length) (hlm : ls.length ≤ 1000000) (hs : Sat w0 w (blk b 29 [.slice (some ⟨nb, no, none⟩) ls.length nc, .int .i64 st, .slice aa al ac] :: F)) :
    Calls Tryz.prog 85 [.slice (some ⟨nb, no, none⟩) ls.length nc, .func (.func 45) #[] #[.pointer (some ⟨b, 0, none⟩)]].toArray w fun e w' => ∃ i : Int, e = .returned (.int .i64 i) ∧ (0 ≤ i ↔ ∃ y ∈ ls, ¬ y.2.length = l0.2.length) ∧ Sat w0 w' (blk b 29 [.slice (some ⟨nb, no, none⟩) ls.length nc, .int .i64 st, .slice aa al ac] :: F) := by
  refine fstart Tryz.func85 rfl rfl hs ?_
  refine Cd.seq ?_
  refine Cd.region ?_
  refine Ops.q (q_asg rfl) ?_
  refine Ops.to rfl ?_
  refine Cd.seq ?_
  refine Cd.seq ?_
  refine Cd.region ?_
  refine Ops.q (q_mv rfl) ?_
  refine Ops.q (q_len esz_26 rfl) ?_
  refine Ops.q (q_mv rfl) ?_
  refine Ops.to rfl ?_
  refine Cd.block ?_
  refine Cd.lp (σ := Nat) (fun k => k ≤ ls.length ∧ ∀ y ∈ ls.take k, y.2.length = l0.2.length) (fun k => [(0, .slice (some ⟨nb, no, none⟩) ls.length nc), (1, .func (.func 45) #[] #[.pointer (some ⟨b, 0, none⟩)]), (7, .int .i64 (ls.length : Int)), (8, .int .i64 (k : Int))]) (fun k => blk b 29 [.slice (some ⟨nb, no, none⟩) ls.length nc, .int .i64 st, .slice aa al ac] :: F) (fun k => ls.length - k) 0 ⟨Nat.zero_le _, by simp⟩ ⟨rfl, rfl, rfl, rfl, trivial⟩ (fun _ hs => hs) ?_
  intro k hI
  have hI1 := hI.1
  refine Cd.seq ?_
  refine Cd.region ?_
  by_cases hk : (k : Int) < (ls.length : Int)
  · refine Ops.q (q_cmp rfl rfl (c_lt hk)) ?_
    obtain ⟨x1, hx2⟩ : ∃ x, ls[k]? = some x := ⟨_, List.getElem?_eq_getElem (by omega)⟩
    refine Ops.to rfl ?_
    refine Cd.seq ?_
    refine Cd.cond_t rfl ?_
    refine Cd.skipTo rfl ?_
    refine Cd.seq ?_
    refine Cd.block ?_
    refine Cd.seq ?_
    refine Cd.region ?_
    refine Ops.q (q_mv rfl) ?_
    refine Ops.q (q_asg rfl) ?_
    refine Ops.to rfl ?_
    refine Cd.seq ?_
    refine Cd.region ?_
    refine Ops.q (q_mv rfl) ?_
    refine Ops.q (q_mv rfl) ?_
    refine Ops.q (q_mv rfl) ?_
    refine Ops.q (q_ix (k := k) esz_26 rfl rfl (by omega)) ?_
    refine Ops.q (q_ldR isA_31 rfl (hL.1.at0 eNL_len hx2 rfl)) ?_
    by_cases hc3 : ¬ x1.2.length = l0.2.length
    · refine Ops.cv (α := Unit) (k := 45) (first := []) (caps := [.pointer (some ⟨b, 0, none⟩)]) (vs := [.slice x1.1.1 x1.2.length x1.1.2]) (v := fun _ => .bool true) (A' := fun _ => blk b 29 [.slice (some ⟨nb, no, none⟩) ls.length nc, .int .i64 st, .slice aa al ac] :: F) en_45 rfl rfl (fun w hs => bT (acheck1_c b nb no nc ls st aa al ac l0 _ _ _ _ w _ hL hl0 h0 hs) hc3) ?_
      intro _
      refine Ops.to rfl ?_
      refine Cd.cond_t rfl ?_
      refine Cd.seq ?_
      refine Cd.region ?_
      refine Ops.q (q_mv rfl) ?_
      refine Ops.q (q_asg rfl) ?_
      refine Ops.to rfl ?_
      refine Cd.rt (fn := Tryz.f85) [.int .i64 (k : Int)] (by with_reducible repeat (first | exact rq_here | apply rq_then | apply rq_block)) rfl ⟨rfl, trivial⟩ ?_
      intro w' hs'
      exact ⟨(k : Int), rfl, ⟨fun _ => ⟨x1, List.mem_iff_getElem?.2 ⟨k, hx2⟩, hc3⟩, fun _ => by omega⟩, hs'⟩
    · refine Ops.cv (α := Unit) (k := 45) (first := []) (caps := [.pointer (some ⟨b, 0, none⟩)]) (vs := [.slice x1.1.1 x1.2.length x1.1.2]) (v := fun _ => .bool false) (A' := fun _ => blk b 29 [.slice (some ⟨nb, no, none⟩) ls.length nc, .int .i64 st, .slice aa al ac] :: F) en_45 rfl rfl (fun w hs => bF (acheck1_c b nb no nc ls st aa al ac l0 _ _ _ _ w _ hL hl0 h0 hs) hc3) ?_
      intro _
      refine Ops.to rfl ?_
      refine Cd.cond_f rfl ?_
      refine Cd.skipTo rfl ?_
      refine Cd.region ?_
      refine Ops.q (q_ar rfl rfl (a_inc (by omega))) ?_
      refine Ops.q (q_mv rfl) ?_
      refine Ops.rnd (k + 1) rfl (⟨by omega, by intro y hy; rw [List.take_add_one, hx2] at hy; rcases List.mem_append.1 hy with hy | hy; exact hI.2 y hy; obtain rfl := List.mem_singleton.1 hy; exact Decidable.of_not_not hc3⟩) (by omega) ⟨rfl, rfl, rfl, rfl, trivial⟩ (fun _ hs => hs) 
  · refine Ops.q (q_cmp rfl rfl (c_nlt (by omega))) ?_
    refine Ops.to rfl ?_
    refine Cd.seq ?_
    refine Cd.cond_f rfl ?_
    refine Cd.exitTo rfl ?_
    refine Cd.seq ?_
    refine Cd.region ?_
    refine Ops.q (q_asg rfl) ?_
    refine Ops.to rfl ?_
    refine Cd.rt (fn := Tryz.f85) [.int .i64 (-1)] (by with_reducible repeat (first | exact rq_here | apply rq_then | apply rq_block)) rfl ⟨rfl, trivial⟩ ?_
    intro w' hs'
    exact ⟨-1, rfl, ⟨fun h => by omega, fun ⟨y, hy, hne⟩ => by rw [List.take_of_length_le (by omega)] at hI; exact absurd (hI.2 y hy) hne⟩, hs'⟩
theorem containsFunc_c (b nb no nc : Nat) (ls : List NL) (st : Int) (aa : Option Addr) (al ac : Nat) (l0 : NL) (w0 w : World) (F : List Atom) (hL : RoLL w0 (some ⟨nb, no, none⟩) ls) (hl0 : ls[0]? = some l0) (h0 : 0 < ls.length) (hlm : ls.length ≤ 1000000) (hs : Sat w0 w (blk b 29 [.slice (some ⟨nb, no, none⟩) ls.length nc, .int .i64 st, .slice aa al ac] :: F)) :
    Calls Tryz.prog 44 [.slice (some ⟨nb, no, none⟩) ls.length nc, .func (.func 45) #[] #[.pointer (some ⟨b, 0, none⟩)]].toArray w fun e w' => e = .returned (.bool (decide (∃ y ∈ ls, ¬ y.2.length = l0.2.length))) ∧ Sat w0 w' (blk b 29 [.slice (some ⟨nb, no, none⟩) ls.length nc, .int .i64 st, .slice aa al ac] :: F) := by
  refine fstart Tryz.func44 rfl rfl hs ?_
  refine Cd.seq ?_
  refine Cd.region ?_
  refine Ops.q (q_asg rfl) ?_
  refine Ops.to rfl ?_
  refine Cd.seq ?_
  refine Cd.region ?_
  refine Ops.q (q_mv rfl) ?_
  refine Ops.q (q_mv rfl) ?_
  refine Ops.cm (α := {i : Int // 0 ≤ i ↔ ∃ y ∈ ls, ¬ y.2.length = l0.2.length}) (v := fun i => .int .i64 i.1) (A' := fun _ => blk b 29 [.slice (some ⟨nb, no, none⟩) ls.length nc, .int .i64 st, .slice aa al ac] :: F) en_85 rfl (fun w hs => (indexFunc_c b nb no nc ls st aa al ac l0 _ w _ hL hl0 h0 hlm hs).mono fun e w' h => by obtain ⟨i, h1, h2, h3⟩ := h; exact ⟨⟨i, h2⟩, h1, h3⟩) ?_
  intro i
  by_cases h1 : 0 ≤ i.1
  · refine Ops.q (q_cmp rfl rfl (c_ge h1)) ?_
    refine Ops.q (q_asg rfl) ?_
    refine Ops.to rfl ?_
    refine Cd.rt (fn := Tryz.f44) [.bool true] (by with_reducible repeat (first | exact rq_here | apply rq_then | apply rq_block)) rfl ⟨rfl, trivial⟩ ?_
    intro w' hs'
    exact ⟨ebool (by rw [← i.2]; simp; try omega), hs'⟩
  · refine Ops.q (q_cmp rfl rfl (c_nge (by omega))) ?_
    refine Ops.q (q_asg rfl) ?_
    refine Ops.to rfl ?_
    refine Cd.rt (fn := Tryz.f44) [.bool false] (by with_reducible repeat (first | exact rq_here | apply rq_then | apply rq_block)) rfl ⟨rfl, trivial⟩ ?_
    intro w' hs'
    exact ⟨ebool (by rw [← i.2]; simp; try omega), hs'⟩
end Go.Proofs.YtilcdghliigngaaGreatDoor
namespace Go.Proofs.YtilcdghliigngaaGreatDoor
open Go.RowKit Go.Proofs.YtilcdghliigngaaGreatDoorGl Go.Proofs.YtilcdghliigngaaGreatDoorPm
set_option linter.unusedVariables false
set_option linter.unusedSimpArgs false
theorem q_cutN {P : Program} {w0 : World} {n : Nat} {D : List Deferred} {L : Env} {A : List Atom} {T E : TypeId} {x y : Operand} {sz : Nat} {kd : IntKind} (hT : elT P T = some E) (hz : szT P E = some sz) (hx : ev L x = some (.slice none 0 0)) (hy : ev L y = some (.int kd ((0 : Nat) : Int))) : Qv P w0 n D L A (.slice T x none (some y) none) (.slice none 0 0) := by
  have := q_cutH (P := P) (w0 := w0) (n := n) (D := D) (A := A) hT hz hx hy (Nat.le_refl 0)
  simpa using this
abbrev cat (ls : List NL) : List Int := ls.flatMap (·.2)
theorem cat_app {ls : List NL} {k : Nat} {x : NL} (hx : ls[k]? = some x) : cat (ls.take (k + 1)) = cat (ls.take k) ++ x.2 := by
  rw [cat, List.take_add_one, hx, List.flatMap_append]; simp
theorem cat_le {ls : List NL} {k : Nat} : (cat (ls.take k)).length ≤ (cat ls).length := by
  have : cat ls = cat (ls.take k) ++ cat (ls.drop k) := by rw [cat, ← List.flatMap_append, List.take_append_drop]
  rw [this, List.length_append]; omega
theorem growNil_c (n : Nat) (w : World) (hn : 1 ≤ n ∧ n ≤ 1000000) : Calls Tryz.prog 87 [.slice none 0 0, .int .i64 (n : Int)].toArray w fun e w' => ∃ p : Option Addr × Nat, e = .returned (.slice p.1 0 p.2) ∧ Sat w w' [row p.1 p.2 3 1 0 []] := by
  refine fstart Tryz.func87 rfl rfl (Sat.nil w) ?_
  refine Cd.seq ?_
  refine Cd.region ?_
  refine Ops.q (q_asg rfl) ?_
  refine Ops.to rfl ?_
  refine Cd.seq ?_
  refine Cd.seq ?_
  refine Cd.region ?_
  refine Ops.q (q_mv rfl) ?_
  refine Ops.q (q_cmp rfl rfl (c_nlt (by omega))) ?_
  refine Ops.to rfl ?_
  refine Cd.cond_f rfl ?_
  refine Cd.skipTo rfl ?_
  refine Cd.seq ?_
  refine Cd.seq ?_
  refine Cd.region ?_
  refine Ops.q (q_mv rfl) ?_
  refine Ops.q (q_mv rfl) ?_
  refine Ops.q (q_cap el_31 rfl) ?_
  refine Ops.q (q_mv rfl) ?_
  refine Ops.q (q_len esz_31 rfl) ?_
  refine Ops.q (q_ar (v := 0) rfl rfl (a_sub (by decide))) ?_
  refine Ops.q (q_ar (v := (n : Int)) rfl rfl (by rw [a_sub (by omega), Int.sub_zero])) ?_
  refine Ops.q (q_asg rfl) ?_
  refine Ops.to rfl ?_
  refine Cd.seq ?_
  refine Cd.region ?_
  refine Ops.q (q_mv rfl) ?_
  refine Ops.q (q_cmp rfl rfl (c_gt (by omega))) ?_
  refine Ops.to rfl ?_
  refine Cd.cond_t rfl ?_
  refine Cd.region ?_
  refine Ops.q (q_mv rfl) ?_
  refine Ops.q (q_mv rfl) ?_
  refine Ops.q (q_cap el_31 rfl) ?_
  refine Ops.q (q_cutN el_31 sz_3 rfl rfl) ?_
  refine Ops.q (q_mv rfl) ?_
  refine Ops.appz (m := n) el_31 iK_3 zsb_3 (by decide) rfl rfl (by omega) (by omega) (by omega) ?_
  intro zb zc hzc
  refine Ops.q (q_mv rfl) ?_
  refine Ops.q (q_len esz_31 rfl) ?_
  refine Ops.q (q_cutHP (k := 0) el_31 sz_3 rfl rfl (by omega)) ?_
  refine Ops.q (q_asg rfl) ?_
  refine Ops.to rfl ?_
  refine Cd.seq ?_
  refine Cd.region ?_
  refine Ops.q (q_mv rfl) ?_
  refine Ops.q (q_asg rfl) ?_
  refine Ops.to rfl ?_
  refine Cd.rt (fn := Tryz.f87) [.slice (some ⟨zb, 0, none⟩) 0 zc] (by with_reducible repeat (first | exact rq_here | apply rq_then | apply rq_block)) rfl ⟨rfl, trivial⟩ ?_
  intro w' hs'
  exact ⟨(some ⟨zb, 0, none⟩, zc), rfl, hs'⟩
theorem concat_c (nb no nc : Nat) (ls : List NL) (w : World) (hL : RoLL w (some ⟨nb, no, none⟩) ls) (hll : ls.length ≤ 1000) (hc : 1 ≤ (cat ls).length ∧ (cat ls).length ≤ 1000000) : Calls Tryz.prog 47 [.slice (some ⟨nb, no, none⟩) ls.length nc].toArray w fun e w' => ∃ p : Option Addr × Nat, e = .returned (.slice p.1 (cat ls).length p.2) ∧ Sat w w' [row p.1 p.2 3 1 (cat ls).length ((cat ls).flatMap eInt)] := by
  refine fstart Tryz.func47 rfl rfl (Sat.nil w) ?_
  refine Cd.seq ?_
  refine Cd.region ?_
  refine Ops.q (q_asg rfl) ?_
  refine Ops.to rfl ?_
  refine Cd.seq ?_
  refine Cd.region ?_
  refine Ops.q (q_asg rfl) ?_
  refine Ops.to rfl ?_
  refine Cd.seq ?_
  refine Cd.seq ?_
  refine Cd.region ?_
  refine Ops.q (q_mv rfl) ?_
  refine Ops.q (q_len esz_26 rfl) ?_
  refine Ops.q (q_mv rfl) ?_
  refine Ops.to rfl ?_
  refine Cd.block ?_
  refine Cd.lp (σ := Nat) (fun k => k ≤ ls.length) (fun k => [(0, .slice (some ⟨nb, no, none⟩) ls.length nc), (3, .int .i64 ((cat (ls.take k)).length : Int)), (9, .slice (some ⟨nb, no, none⟩) ls.length nc), (10, .int .i64 (ls.length : Int)), (11, .int .i64 (k : Int))]) (fun k => []) (fun k => ls.length - k) 0 (Nat.zero_le _) ⟨rfl, rfl, rfl, rfl, rfl, trivial⟩ (fun _ hs => hs) ?_
  intro k hI
  refine Cd.seq ?_
  refine Cd.region ?_
  by_cases hk1 : (k : Int) < (ls.length : Int)
  · refine Ops.q (q_cmp rfl rfl (c_lt hk1)) ?_
    obtain ⟨x1, hx2⟩ : ∃ x, ls[k]? = some x := ⟨_, List.getElem?_eq_getElem (by omega)⟩
    have hcl := cat_le (ls := ls) (k := k + 1)
    rw [cat_app hx2, List.length_append] at hcl
    have hxe := hL.2 x1 (List.mem_iff_getElem?.2 ⟨k, hx2⟩)
    refine Ops.to rfl ?_
    refine Cd.seq ?_
    refine Cd.cond_t rfl ?_
    refine Cd.skipTo rfl ?_
    refine Cd.seq ?_
    refine Cd.block ?_
    refine Cd.seq ?_
    refine Cd.region ?_
    refine Ops.q (q_ix (k := k) esz_26 rfl rfl (by omega)) ?_
    refine Ops.q (q_ldR isA_31 rfl (hL.1.at0 eNL_len hx2 rfl)) ?_
    refine Ops.q (q_asg rfl) ?_
    refine Ops.to rfl ?_
    refine Cd.seq ?_
    refine Cd.region ?_
    refine Ops.q (q_mv rfl) ?_
    refine Ops.q (q_mv rfl) ?_
    refine Ops.q (q_len esz_31 rfl) ?_
    refine Ops.q (q_ar rfl rfl (a_add (by omega))) ?_
    refine Ops.q (q_asg rfl) ?_
    refine Ops.to rfl ?_
    refine Cd.seq ?_
    refine Cd.region ?_
    refine Ops.q (q_mv rfl) ?_
    refine Ops.q (q_cmp rfl rfl (c_nlt (by omega))) ?_
    refine Ops.to rfl ?_
    refine Cd.cond_f rfl ?_
    refine Cd.skipTo rfl ?_
    refine Cd.region ?_
    refine Ops.q (q_ar rfl rfl (a_inc (by omega))) ?_
    refine Ops.q (q_mv rfl) ?_
    refine Ops.rnd (k + 1) rfl (by omega) (by omega) ⟨rfl, (by (try dsimp only); rw [cat_app hx2, List.length_append]; rfl), rfl, rfl, rfl, trivial⟩ (fun _ hs => hs) 
  · refine Ops.q (q_cmp rfl rfl (c_nlt (by omega))) ?_
    have hk1 : ls.take k = ls := List.take_of_length_le (by omega)
    rw [hk1]
    refine Ops.to rfl ?_
    refine Cd.seq ?_
    refine Cd.cond_f rfl ?_
    refine Cd.exitTo rfl ?_
    refine Cd.seq ?_
    refine Cd.region ?_
    refine Ops.q (q_mv rfl) ?_
    refine Ops.cl (α := Option Addr × Nat) (v := fun p => .slice p.1 0 p.2) (B := fun p => [row p.1 p.2 3 1 0 []]) en_87 rfl (fun w hs => growNil_c (cat ls).length w (by omega)) ?_
    rintro ⟨ga, gc⟩
    refine Ops.q (q_asg rfl) ?_
    refine Ops.to rfl ?_
    refine Cd.seq ?_
    refine Cd.seq ?_
    refine Cd.region ?_
    refine Ops.q (q_mv rfl) ?_
    refine Ops.q (q_len esz_26 rfl) ?_
    refine Ops.q (q_mv rfl) ?_
    refine Ops.to rfl ?_
    refine Cd.block ?_
    refine Cd.lp (σ := Nat × Option Addr × Nat) (fun s => s.1 ≤ ls.length) (fun s => [(25, .slice (some ⟨nb, no, none⟩) ls.length nc), (26, .int .i64 (ls.length : Int)), (27, .int .i64 (s.1 : Int)), (6, .slice s.2.1 ((cat (ls.take s.1)).length) s.2.2)]) (fun s => [row s.2.1 s.2.2 3 1 ((cat (ls.take s.1)).length) ((cat (ls.take s.1)).flatMap eInt)]) (fun s => ls.length - s.1) (0, ga, gc) (Nat.zero_le _) ⟨rfl, rfl, rfl, rfl, trivial⟩ (fun _ hs => hs) ?_
    rintro ⟨k, pa, pc⟩ hI
    dsimp only at hI
    change Cd _ _ _ _ _ _ _ [(25, .slice (some ⟨nb, no, none⟩) ls.length nc), (26, .int .i64 (ls.length : Int)), (27, .int .i64 (k : Int)), (6, .slice pa ((cat (ls.take k)).length) pc)] ([row pa pc 3 1 ((cat (ls.take k)).length) ((cat (ls.take k)).flatMap eInt)])
    refine Cd.seq ?_
    refine Cd.region ?_
    by_cases hk2 : (k : Int) < (ls.length : Int)
    · refine Ops.q (q_cmp rfl rfl (c_lt hk2)) ?_
      obtain ⟨x3, hx4⟩ : ∃ x, ls[k]? = some x := ⟨_, List.getElem?_eq_getElem (by omega)⟩
      have hcl := cat_le (ls := ls) (k := k + 1)
      rw [cat_app hx4, List.length_append] at hcl
      have hxe := hL.2 x3 (List.mem_iff_getElem?.2 ⟨k, hx4⟩)
      refine Ops.to rfl ?_
      refine Cd.seq ?_
      refine Cd.cond_t rfl ?_
      refine Cd.skipTo rfl ?_
      refine Cd.seq ?_
      refine Cd.block ?_
      refine Cd.seq ?_
      refine Cd.region ?_
      refine Ops.q (q_ix (k := k) esz_26 rfl rfl (by omega)) ?_
      refine Ops.q (q_ldR isA_31 rfl (hL.1.at0 eNL_len hx4 rfl)) ?_
      refine Ops.q (q_asg rfl) ?_
      refine Ops.to rfl ?_
      refine Cd.region ?_
      refine Ops.q (q_mv rfl) ?_
      refine Ops.q (q_mv rfl) ?_
      refine Ops.app (news := (x3.2.flatMap eInt)) el_31 zsb_3 (by decide) rfl rfl (fun _ hs => RoL.later hxe hs.below) (fun _ hs => hs) (fun _ _ => .here) (fm_length eInt_len _) (fm_one eInt_one _) (by omega) (by omega) ?_
      intro qa qc
      refine Ops.q (q_asg rfl) ?_
      refine Ops.to rfl ?_
      refine Cd.region ?_
      refine Ops.q (q_ar rfl rfl (a_inc (by omega))) ?_
      refine Ops.q (q_mv rfl) ?_
      refine Ops.rnd ((k + 1, qa, qc)) rfl (by dsimp only; exact (by omega)) (by dsimp only; omega) ⟨rfl, rfl, rfl, (by (try dsimp only); rw [cat_app hx4, List.length_append]; rfl), trivial⟩ (fun _ hs => by (try dsimp only); rw [cat_app hx4, fm_app, List.length_append]; exact hs) 
    · refine Ops.q (q_cmp rfl rfl (c_nlt (by omega))) ?_
      refine Ops.to rfl ?_
      refine Cd.seq ?_
      refine Cd.cond_f rfl ?_
      refine Cd.exitTo rfl ?_
      refine Cd.seq ?_
      refine Cd.region ?_
      refine Ops.q (q_mv rfl) ?_
      refine Ops.q (q_asg rfl) ?_
      refine Ops.to rfl ?_
      refine Cd.rt (fn := Tryz.f47) [.slice pa ((cat (ls.take k)).length) pc] (by with_reducible repeat (first | exact rq_here | apply rq_then | apply rq_block)) rfl ⟨rfl, trivial⟩ ?_
      intro w' hs'
      rw [List.take_of_length_le (show ls.length ≤ k by omega)] at hs'
      exact ⟨(pa, pc), by rw [List.take_of_length_le (show ls.length ≤ k by omega)]; rfl, hs'⟩
end Go.Proofs.YtilcdghliigngaaGreatDoor
namespace Go.Proofs.YtilcdghliigngaaGreatDoor
open Go.RowKit Go.Proofs.YtilcdghliigngaaGreatDoorGl Go.Proofs.YtilcdghliigngaaGreatDoorPm
set_option linter.unusedVariables false
set_option linter.unusedSimpArgs false
def stE (n : Nat) (x : Int) : Int := if wi x 0 ((n : Int) - 1) then 0 else 4
def autoE (nx : List (List Int)) (st : Int) (al : Nat) : Int :=
  if wi (nx.length : Int) 1 32 then
    if al = nx.length then
      if wi ((nx.headD []).length : Int) 1 16 then
        if ∃ r ∈ nx, ¬ r.length = (nx.headD []).length then 13 else firstE (stE nx.length) (nx.flatten ++ [st])
      else 3
    else 13
  else 3
theorem cat_len {ls : List NL} {c : Nat} (h : ∀ y ∈ ls, y.2.length = c) : (cat ls).length = ls.length * c := by
  induction ls with
  | nil => simp
  | cons x ls ih =>
    rw [cat, List.flatMap_cons, List.length_append, h x (.head _)]
    have := ih (fun y hy => h y (.tail _ hy))
    rw [cat] at this
    rw [this, List.length_cons, Nat.succ_mul]; omega
theorem cat_flat (ls : List NL) : (ls.map (·.2)).flatten = cat ls := by rw [cat, List.flatMap_def]
theorem acheck_c (na : Option Addr) (nc : Nat) (ls : List NL) (st : Int) (aa : Option Addr) (al ac : Nat) (w : World) (hL : RoLL w na ls) : Calls Tryz.prog 13 [.agg [.slice na ls.length nc, .int .i64 st, .slice aa al ac].toArray].toArray w fun e w' => e = .returned (.int .i64 (autoE (ls.map (·.2)) st al)) ∧ Sat w w' [] := by
  refine fstart Tryz.func13 rfl rfl (Sat.nil w) ?_
  refine Cd.seq ?_
  refine Cd.region ?_
  refine Ops.box [.slice na ls.length nc, .int .i64 st, .slice aa al ac] rfl rfl ?_
  intro b1
  refine Ops.q (q_asg rfl) ?_
  refine Ops.to rfl ?_
  refine Cd.seq ?_
  refine Cd.block ?_
  refine Cd.seq ?_
  refine Cd.region ?_
  refine Ops.q (q_fa fo_29_0 rfl) ?_
  refine Ops.q (q_ldB isA_26 rfl .here rfl) ?_
  refine Ops.q (q_len esz_26 rfl) ?_
  by_cases h2 : wi (ls.length : Int) 1 32
  · refine Ops.cp en_19 rfl (fun w hs => dT (in_c _ _ _ w) h2) ?_
    refine Ops.q (q_not rfl) ?_
    refine Ops.q (q_asg rfl) ?_
    refine Ops.to rfl ?_
    refine Cd.cond_f rfl ?_
    refine Cd.seq ?_
    refine Cd.region ?_
    have hw1 : wi (ls.length : Int) 1 32 := h2
    have hw1' := hw1
    unfold wi at hw1'
    obtain ⟨l0, hl0⟩ : ∃ x, ls[0]? = some x := ⟨_, List.getElem?_eq_getElem (by omega)⟩
    obtain ⟨nb, no, rfl⟩ := RoL.pos hL.1 eNL_len hl0
    have hhd : (ls.map (·.2)).headD [] = l0.2 := by cases ls with | nil => simp at hl0 | cons x xs => simp at hl0; subst hl0; rfl
    refine Ops.q (q_fa fo_29_2 rfl) ?_
    refine Ops.q (q_ldB isA_27 rfl .here rfl) ?_
    refine Ops.q (q_len esz_27 rfl) ?_
    refine Ops.q (q_fa fo_29_0 rfl) ?_
    refine Ops.q (q_ldB isA_26 rfl .here rfl) ?_
    refine Ops.q (q_len esz_26 rfl) ?_
    by_cases h3 : (al : Int) = (ls.length : Int)
    · refine Ops.q (q_cmp rfl rfl (c_nne h3)) ?_
      refine Ops.q (q_asg rfl) ?_
      refine Ops.to rfl ?_
      refine Cd.cond_f rfl ?_
      refine Cd.seq ?_
      refine Cd.region ?_
      refine Ops.q (q_fa fo_29_0 rfl) ?_
      refine Ops.q (q_ldB isA_26 rfl .here rfl) ?_
      refine Ops.q (q_ix (k := 0) esz_26 rfl rfl (by omega)) ?_
      refine Ops.q (q_ldR isA_31 rfl (hL.1.at0 eNL_len hl0 rfl)) ?_
      refine Ops.q (q_len esz_31 rfl) ?_
      by_cases h4 : wi (l0.2.length : Int) 1 16
      · refine Ops.cp en_19 rfl (fun w hs => dT (in_c _ _ _ w) h4) ?_
        refine Ops.q (q_not rfl) ?_
        refine Ops.q (q_asg rfl) ?_
        refine Ops.to rfl ?_
        refine Cd.cond_f rfl ?_
        refine Cd.seq ?_
        refine Cd.region ?_
        have hw3 : wi (l0.2.length : Int) 1 16 := h4
        refine Ops.q (q_fa fo_29_0 rfl) ?_
        refine Ops.q (q_ldB isA_26 rfl .here rfl) ?_
        refine Ops.q (q_mkf rfl rfl) ?_
        by_cases hex : ∃ y ∈ ls, ¬ y.2.length = l0.2.length
        · refine Ops.cm (α := Unit) (v := fun _ => .bool true) (A' := fun _ => [blk b1 29 [.slice (some ⟨nb, no, none⟩) ls.length nc, .int .i64 st, .slice aa al ac]]) en_44 rfl (fun w hs => bT (containsFunc_c _ _ _ _ ls st _ al _ l0 _ w _ hL hl0 (by omega) (by omega) ((hs.pull .here))) hex) ?_
          intro _
          refine Ops.q (q_asg rfl) ?_
          refine Ops.to rfl ?_
          refine Cd.cond_t rfl ?_
          refine Cd.seq ?_
          refine Cd.region ?_
          refine Ops.q (q_asg rfl) ?_
          refine Ops.to rfl ?_
          refine Cd.rt (fn := Tryz.f13) [.int .i64 13] (by with_reducible repeat (first | exact rq_here | apply rq_then | apply rq_block)) rfl ⟨rfl, trivial⟩ ?_
          intro w' hs'
          exact ⟨by unfold autoE; rw [if_pos (by simpa using hw1), if_pos (by simp only [List.length_map]; omega), hhd, if_pos hw3, if_pos (by obtain ⟨y, hy, hne⟩ := hex; exact ⟨y.2, List.mem_map_of_mem hy, hne⟩)]; rfl, hs'.none⟩
        · refine Ops.cm (α := Unit) (v := fun _ => .bool false) (A' := fun _ => [blk b1 29 [.slice (some ⟨nb, no, none⟩) ls.length nc, .int .i64 st, .slice aa al ac]]) en_44 rfl (fun w hs => bF (containsFunc_c _ _ _ _ ls st _ al _ l0 _ w _ hL hl0 (by omega) (by omega) ((hs.pull .here))) hex) ?_
          intro _
          have hall : ∀ y ∈ ls, y.2.length = l0.2.length := fun y hy => Decidable.of_not_not (fun hne => hex ⟨y, hy, hne⟩)
          have hcl := cat_len hall
          have hcb : 1 ≤ (cat ls).length ∧ (cat ls).length ≤ 512 := by rw [hcl]; unfold wi at hw3; exact ⟨Nat.mul_pos (by omega) (by omega), Nat.le_trans (Nat.mul_le_mul (show ls.length ≤ 32 by omega) (show l0.2.length ≤ 16 by omega)) (by decide)⟩
          refine Ops.q (q_asg rfl) ?_
          refine Ops.to rfl ?_
          refine Cd.cond_f rfl ?_
          refine Cd.skipTo rfl ?_
          refine Cd.seq ?_
          refine Cd.region ?_
          have hal : (cat ls ++ [st]).length = (cat ls).length + 1 := by rw [List.length_append]; rfl
          refine Ops.q (q_fa fo_29_0 rfl) ?_
          refine Ops.q (q_ldB isA_26 rfl .here rfl) ?_
          refine Ops.q (q_len esz_26 rfl) ?_
          refine Ops.cl (α := Nat) (v := fun b => .func (.func 86) #[] #[.pointer (some ⟨b, 0, none⟩)]) (B := fun b => [blk b 3 [.int .i64 (ls.length : Int)]]) en_46 rfl (fun w hs => below_c (ls.length : Int) w) ?_
          intro bl5
          refine Ops.q (q_asg rfl) ?_
          refine Ops.to rfl ?_
          refine Cd.seq ?_
          refine Cd.seq ?_
          refine Cd.draw rfl (by kernel_rfl) (.cons (.there .here) .nil) ?_
          intro F6 St7 hP8 hF9 hR10
          refine Dr.q (i := 0) hP8 rfl (by kernel_rfl) (q_fa fo_29_0 rfl) ?_
          refine Dr.q (i := 1) hP8 rfl (by kernel_rfl) (q_ldB isA_26 rfl .here rfl) ?_
          refine Dr.q (i := 3) hP8 rfl (by kernel_rfl) (q_fa fo_29_1 rfl) ?_
          refine Dr.q (i := 4) hP8 rfl (by kernel_rfl) (q_ldB isA_3 rfl .here rfl) ?_
          refine Dr.q (i := 8) hP8 rfl (by kernel_rfl) (q_mv rfl) ?_
          refine Dr.e2 (i := 2) (j := 5) rfl rfl (by kernel_rfl) ?_ ?_
          · refine Ops.cl (α := Option Addr × Nat) (v := fun p => .slice p.1 (cat ls).length p.2) (B := fun p => [row p.1 p.2 3 1 (cat ls).length ((cat ls).flatMap eInt)]) en_47 rfl (fun w hs => concat_c _ _ _ ls w (hL.later hs.below) (by omega) (by omega)) ?_
            rintro ⟨ca11, cc12⟩
            refine Dr.back (fun _ hs => hF9 (.there .here) hs) ?_
            refine Dr.e (i := 5) rfl (by kernel_rfl) ?_
            refine Ops.lit [.int .i64 st] el_31 zsb_3 rfl rfl ⟨by decide, by decide⟩ rfl ?_
            intro b13
            refine Dr.back (fun _ hs => hF9 .p2 hs) ?_
            refine Dr.e (i := 6) rfl (by kernel_rfl) ?_
            refine Ops.app (news := [.int .i64 st]) el_31 zsb_3 (by decide) rfl rfl (fun _ hs => hs.ownRo .here) (fun _ hs => (hs.pull .here).drop) (fun _ _ => .here) rfl (one rfl) (by omega) (by omega) ?_
            intro a14 c15
            refine Dr.back (fun _ hs => hF9 (.there .here) hs) ?_
            refine Dr.q (i := 7) hP8 rfl (by kernel_rfl) (q_len esz_31 rfl) ?_
            refine Dr.tail 9 (by kernel_rfl) ?_
            refine Ops.sat ?_ (fun _ hs => hR10 (.there .here) hs)
            refine Ops.to rfl ?_
            refine Cd.block ?_
            refine Cd.lp (σ := Nat) (fun k => k ≤ (cat ls ++ [st]).length ∧ firstE (stE ls.length) ((cat ls ++ [st]).drop k) = firstE (stE ls.length) (cat ls ++ [st])) (fun k => [(3, .func (.func 86) #[] #[.pointer (some ⟨bl5, 0, none⟩)]), (43, .slice a14 ((cat ls ++ [st]).length) c15), (44, .int .i64 ((cat ls ++ [st]).length : Int)), (45, .int .i64 (k : Int))]) (fun k => [blk bl5 3 [.int .i64 (ls.length : Int)], row a14 c15 3 1 ((cat ls ++ [st]).length) ((cat ls ++ [st]).flatMap eInt)]) (fun k => (cat ls ++ [st]).length - k) 0 ⟨Nat.zero_le _, rfl⟩ ⟨rfl, (by rw [hal]; rfl), (by rw [hal]; rfl), rfl, trivial⟩ (fun _ hs => by have h1 := (((hs.pull (.there .here)).pull .p2).pull .p2).drop; (try dsimp only); rw [hal, fm_app]; exact h1) ?_
            intro k hI
            have hI1 := hI.1
            refine Cd.seq ?_
            refine Cd.region ?_
            by_cases hk : (k : Int) < ((cat ls ++ [st]).length : Int)
            · refine Ops.q (q_cmp rfl rfl (c_lt hk)) ?_
              obtain ⟨x16, hx17⟩ : ∃ x, (cat ls ++ [st])[k]? = some x := ⟨_, List.getElem?_eq_getElem (by omega)⟩
              refine Ops.rowpos (.there .here) (by omega) ?_
              rintro rb18 rfl
              refine Ops.to rfl ?_
              refine Cd.seq ?_
              refine Cd.cond_t rfl ?_
              refine Cd.skipTo rfl ?_
              refine Cd.seq ?_
              refine Cd.block ?_
              refine Cd.seq ?_
              refine Cd.region ?_
              refine Ops.q (q_ix (k := k) esz_31 rfl rfl (by omega)) ?_
              refine Ops.q (q_ldO isA_3 rfl (.there .here) (fm_at0 eInt_len hx17 rfl)) ?_
              refine Ops.q (q_asg rfl) ?_
              refine Ops.to rfl ?_
              refine Cd.seq ?_
              refine Cd.region ?_
              refine Ops.q (q_mv rfl) ?_
              refine Ops.q (q_mv rfl) ?_
              by_cases h19 : wi x16 0 ((ls.length : Int) - 1)
              · refine Ops.cv (α := Unit) (k := 86) (first := []) (caps := [.pointer (some ⟨bl5, 0, none⟩)]) (vs := [.int .i64 x16]) (v := fun _ => .bool true) (A' := fun _ => [blk bl5 3 [.int .i64 (ls.length : Int)], row (some ⟨rb18, 0, none⟩) c15 3 1 ((cat ls ++ [st]).length) ((cat ls ++ [st]).flatMap eInt)]) en_86 rfl rfl (fun w hs => bT (below1_c bl5 x16 (ls.length : Int) _ w _ (by omega) (((hs.pull (.there .here)).pull (.there .here)))) h19) ?_
                intro _
                refine Ops.q (q_not rfl) ?_
                refine Ops.to rfl ?_
                refine Cd.cond_f rfl ?_
                refine Cd.skipTo rfl ?_
                refine Cd.region ?_
                refine Ops.q (q_ar rfl rfl (a_inc (by omega))) ?_
                refine Ops.q (q_mv rfl) ?_
                refine Ops.rnd (k + 1) rfl (⟨by omega, by rw [← hI.2]; exact (firstE_step hx17 (by unfold stE; rw [if_pos h19])).symm⟩) (by omega) ⟨rfl, rfl, rfl, rfl, trivial⟩ (fun _ hs => ((hs.pull (.there .here)).pull (.there .here))) 
              · refine Ops.cv (α := Unit) (k := 86) (first := []) (caps := [.pointer (some ⟨bl5, 0, none⟩)]) (vs := [.int .i64 x16]) (v := fun _ => .bool false) (A' := fun _ => [blk bl5 3 [.int .i64 (ls.length : Int)], row (some ⟨rb18, 0, none⟩) c15 3 1 ((cat ls ++ [st]).length) ((cat ls ++ [st]).flatMap eInt)]) en_86 rfl rfl (fun w hs => bF (below1_c bl5 x16 (ls.length : Int) _ w _ (by omega) (((hs.pull (.there .here)).pull (.there .here)))) h19) ?_
                intro _
                refine Ops.q (q_not rfl) ?_
                refine Ops.to rfl ?_
                refine Cd.cond_t rfl ?_
                refine Cd.seq ?_
                refine Cd.region ?_
                refine Ops.q (q_asg rfl) ?_
                refine Ops.to rfl ?_
                refine Cd.rt (fn := Tryz.f13) [.int .i64 4] (by with_reducible repeat (first | exact rq_here | apply rq_then | apply rq_block)) rfl ⟨rfl, trivial⟩ ?_
                intro w' hs'
                have hT : autoE (ls.map (·.2)) st al = firstE (stE ls.length) (cat ls ++ [st]) := by unfold autoE; rw [if_pos (by simpa using hw1), if_pos (by simp only [List.length_map]; omega), hhd, if_pos hw3, if_neg (by rintro ⟨r, hr, hne⟩; obtain ⟨y, hy, rfl⟩ := List.mem_map.1 hr; exact hex ⟨y, hy, hne⟩), cat_flat, List.length_map]
                exact ⟨by rw [hT, ← hI.2, firstE_stop hx17 (by unfold stE; rw [if_neg h19]; decide)]; unfold stE; rw [if_neg h19]; rfl, hs'.none⟩
            · refine Ops.q (q_cmp rfl rfl (c_nlt (by omega))) ?_
              refine Ops.to rfl ?_
              refine Cd.seq ?_
              refine Cd.cond_f rfl ?_
              refine Cd.exitTo rfl ?_
              refine Cd.seq ?_
              refine Cd.region ?_
              refine Ops.q (q_asg rfl) ?_
              refine Ops.to rfl ?_
              refine Cd.rt (fn := Tryz.f13) [.int .i64 0] (by with_reducible repeat (first | exact rq_here | apply rq_then | apply rq_block)) rfl ⟨rfl, trivial⟩ ?_
              intro w' hs'
              have hT : autoE (ls.map (·.2)) st al = firstE (stE ls.length) (cat ls ++ [st]) := by unfold autoE; rw [if_pos (by simpa using hw1), if_pos (by simp only [List.length_map]; omega), hhd, if_pos hw3, if_neg (by rintro ⟨r, hr, hne⟩; obtain ⟨y, hy, rfl⟩ := List.mem_map.1 hr; exact hex ⟨y, hy, hne⟩), cat_flat, List.length_map]
              exact ⟨by rw [hT, ← hI.2, firstE_end (by omega)]; rfl, hs'.none⟩
          · refine Ops.lit [.int .i64 st] el_31 zsb_3 rfl rfl ⟨by decide, by decide⟩ rfl ?_
            intro b20
            refine Dr.back (fun _ hs => hF9 (.there .here) hs) ?_
            refine Dr.e (i := 2) rfl (by kernel_rfl) ?_
            refine Ops.cl (α := Option Addr × Nat) (v := fun p => .slice p.1 (cat ls).length p.2) (B := fun p => [row p.1 p.2 3 1 (cat ls).length ((cat ls).flatMap eInt)]) en_47 rfl (fun w hs => concat_c _ _ _ ls w (hL.later hs.below) (by omega) (by omega)) ?_
            rintro ⟨ca21, cc22⟩
            refine Dr.back (fun _ hs => hF9 .p2 hs) ?_
            refine Dr.e (i := 6) rfl (by kernel_rfl) ?_
            refine Ops.app (news := [.int .i64 st]) el_31 zsb_3 (by decide) rfl rfl (fun _ hs => hs.ownRo (.there .here)) (fun _ hs => (hs.pull (.there .here)).drop) (fun _ _ => .here) rfl (one rfl) (by omega) (by omega) ?_
            intro a23 c24
            refine Dr.back (fun _ hs => hF9 (.there .here) hs) ?_
            refine Dr.q (i := 7) hP8 rfl (by kernel_rfl) (q_len esz_31 rfl) ?_
            refine Dr.tail 9 (by kernel_rfl) ?_
            refine Ops.sat ?_ (fun _ hs => hR10 (.there .here) hs)
            refine Ops.to rfl ?_
            refine Cd.block ?_
            refine Cd.lp (σ := Nat) (fun k => k ≤ (cat ls ++ [st]).length ∧ firstE (stE ls.length) ((cat ls ++ [st]).drop k) = firstE (stE ls.length) (cat ls ++ [st])) (fun k => [(3, .func (.func 86) #[] #[.pointer (some ⟨bl5, 0, none⟩)]), (43, .slice a23 ((cat ls ++ [st]).length) c24), (44, .int .i64 ((cat ls ++ [st]).length : Int)), (45, .int .i64 (k : Int))]) (fun k => [blk bl5 3 [.int .i64 (ls.length : Int)], row a23 c24 3 1 ((cat ls ++ [st]).length) ((cat ls ++ [st]).flatMap eInt)]) (fun k => (cat ls ++ [st]).length - k) 0 ⟨Nat.zero_le _, rfl⟩ ⟨rfl, (by rw [hal]; rfl), (by rw [hal]; rfl), rfl, trivial⟩ (fun _ hs => by have h1 := (((hs.pull (.there .here)).pull .p2).pull .p2).drop; (try dsimp only); rw [hal, fm_app]; exact h1) ?_
            intro k hI
            have hI1 := hI.1
            refine Cd.seq ?_
            refine Cd.region ?_
            by_cases hk : (k : Int) < ((cat ls ++ [st]).length : Int)
            · refine Ops.q (q_cmp rfl rfl (c_lt hk)) ?_
              obtain ⟨x25, hx26⟩ : ∃ x, (cat ls ++ [st])[k]? = some x := ⟨_, List.getElem?_eq_getElem (by omega)⟩
              refine Ops.rowpos (.there .here) (by omega) ?_
              rintro rb27 rfl
              refine Ops.to rfl ?_
              refine Cd.seq ?_
              refine Cd.cond_t rfl ?_
              refine Cd.skipTo rfl ?_
              refine Cd.seq ?_
              refine Cd.block ?_
              refine Cd.seq ?_
              refine Cd.region ?_
              refine Ops.q (q_ix (k := k) esz_31 rfl rfl (by omega)) ?_
              refine Ops.q (q_ldO isA_3 rfl (.there .here) (fm_at0 eInt_len hx26 rfl)) ?_
              refine Ops.q (q_asg rfl) ?_
              refine Ops.to rfl ?_
              refine Cd.seq ?_
              refine Cd.region ?_
              refine Ops.q (q_mv rfl) ?_
              refine Ops.q (q_mv rfl) ?_
              by_cases h28 : wi x25 0 ((ls.length : Int) - 1)
              · refine Ops.cv (α := Unit) (k := 86) (first := []) (caps := [.pointer (some ⟨bl5, 0, none⟩)]) (vs := [.int .i64 x25]) (v := fun _ => .bool true) (A' := fun _ => [blk bl5 3 [.int .i64 (ls.length : Int)], row (some ⟨rb27, 0, none⟩) c24 3 1 ((cat ls ++ [st]).length) ((cat ls ++ [st]).flatMap eInt)]) en_86 rfl rfl (fun w hs => bT (below1_c bl5 x25 (ls.length : Int) _ w _ (by omega) (((hs.pull (.there .here)).pull (.there .here)))) h28) ?_
                intro _
                refine Ops.q (q_not rfl) ?_
                refine Ops.to rfl ?_
                refine Cd.cond_f rfl ?_
                refine Cd.skipTo rfl ?_
                refine Cd.region ?_
                refine Ops.q (q_ar rfl rfl (a_inc (by omega))) ?_
                refine Ops.q (q_mv rfl) ?_
                refine Ops.rnd (k + 1) rfl (⟨by omega, by rw [← hI.2]; exact (firstE_step hx26 (by unfold stE; rw [if_pos h28])).symm⟩) (by omega) ⟨rfl, rfl, rfl, rfl, trivial⟩ (fun _ hs => ((hs.pull (.there .here)).pull (.there .here))) 
              · refine Ops.cv (α := Unit) (k := 86) (first := []) (caps := [.pointer (some ⟨bl5, 0, none⟩)]) (vs := [.int .i64 x25]) (v := fun _ => .bool false) (A' := fun _ => [blk bl5 3 [.int .i64 (ls.length : Int)], row (some ⟨rb27, 0, none⟩) c24 3 1 ((cat ls ++ [st]).length) ((cat ls ++ [st]).flatMap eInt)]) en_86 rfl rfl (fun w hs => bF (below1_c bl5 x25 (ls.length : Int) _ w _ (by omega) (((hs.pull (.there .here)).pull (.there .here)))) h28) ?_
                intro _
                refine Ops.q (q_not rfl) ?_
                refine Ops.to rfl ?_
                refine Cd.cond_t rfl ?_
                refine Cd.seq ?_
                refine Cd.region ?_
                refine Ops.q (q_asg rfl) ?_
                refine Ops.to rfl ?_
                refine Cd.rt (fn := Tryz.f13) [.int .i64 4] (by with_reducible repeat (first | exact rq_here | apply rq_then | apply rq_block)) rfl ⟨rfl, trivial⟩ ?_
                intro w' hs'
                have hT : autoE (ls.map (·.2)) st al = firstE (stE ls.length) (cat ls ++ [st]) := by unfold autoE; rw [if_pos (by simpa using hw1), if_pos (by simp only [List.length_map]; omega), hhd, if_pos hw3, if_neg (by rintro ⟨r, hr, hne⟩; obtain ⟨y, hy, rfl⟩ := List.mem_map.1 hr; exact hex ⟨y, hy, hne⟩), cat_flat, List.length_map]
                exact ⟨by rw [hT, ← hI.2, firstE_stop hx26 (by unfold stE; rw [if_neg h28]; decide)]; unfold stE; rw [if_neg h28]; rfl, hs'.none⟩
            · refine Ops.q (q_cmp rfl rfl (c_nlt (by omega))) ?_
              refine Ops.to rfl ?_
              refine Cd.seq ?_
              refine Cd.cond_f rfl ?_
              refine Cd.exitTo rfl ?_
              refine Cd.seq ?_
              refine Cd.region ?_
              refine Ops.q (q_asg rfl) ?_
              refine Ops.to rfl ?_
              refine Cd.rt (fn := Tryz.f13) [.int .i64 0] (by with_reducible repeat (first | exact rq_here | apply rq_then | apply rq_block)) rfl ⟨rfl, trivial⟩ ?_
              intro w' hs'
              have hT : autoE (ls.map (·.2)) st al = firstE (stE ls.length) (cat ls ++ [st]) := by unfold autoE; rw [if_pos (by simpa using hw1), if_pos (by simp only [List.length_map]; omega), hhd, if_pos hw3, if_neg (by rintro ⟨r, hr, hne⟩; obtain ⟨y, hy, rfl⟩ := List.mem_map.1 hr; exact hex ⟨y, hy, hne⟩), cat_flat, List.length_map]
              exact ⟨by rw [hT, ← hI.2, firstE_end (by omega)]; rfl, hs'.none⟩
      · refine Ops.cp en_19 rfl (fun w hs => dF (in_c _ _ _ w) h4) ?_
        refine Ops.q (q_not rfl) ?_
        refine Ops.q (q_asg rfl) ?_
        refine Ops.to rfl ?_
        refine Cd.cond_t rfl ?_
        refine Cd.seq ?_
        refine Cd.region ?_
        refine Ops.q (q_asg rfl) ?_
        refine Ops.to rfl ?_
        refine Cd.rt (fn := Tryz.f13) [.int .i64 3] (by with_reducible repeat (first | exact rq_here | apply rq_then | apply rq_block)) rfl ⟨rfl, trivial⟩ ?_
        intro w' hs'
        exact ⟨by unfold autoE; rw [if_pos (by simpa using hw1), if_pos (by simp only [List.length_map]; omega), hhd, if_neg h4]; rfl, hs'.none⟩
    · refine Ops.q (q_cmp rfl rfl (c_ne h3)) ?_
      refine Ops.q (q_asg rfl) ?_
      refine Ops.to rfl ?_
      refine Cd.cond_t rfl ?_
      refine Cd.seq ?_
      refine Cd.region ?_
      refine Ops.q (q_asg rfl) ?_
      refine Ops.to rfl ?_
      refine Cd.rt (fn := Tryz.f13) [.int .i64 13] (by with_reducible repeat (first | exact rq_here | apply rq_then | apply rq_block)) rfl ⟨rfl, trivial⟩ ?_
      intro w' hs'
      exact ⟨by unfold autoE; rw [if_pos (by simpa using hw1), if_neg (by simp only [List.length_map]; omega)]; rfl, hs'.none⟩
  · refine Ops.cp en_19 rfl (fun w hs => dF (in_c _ _ _ w) h2) ?_
    refine Ops.q (q_not rfl) ?_
    refine Ops.q (q_asg rfl) ?_
    refine Ops.to rfl ?_
    refine Cd.cond_t rfl ?_
    refine Cd.seq ?_
    refine Cd.region ?_
    refine Ops.q (q_asg rfl) ?_
    refine Ops.to rfl ?_
    refine Cd.rt (fn := Tryz.f13) [.int .i64 3] (by with_reducible repeat (first | exact rq_here | apply rq_then | apply rq_block)) rfl ⟨rfl, trivial⟩ ?_
    intro w' hs'
    exact ⟨by unfold autoE; rw [if_neg (by simpa using h2)]; rfl, hs'.none⟩
end Go.Proofs.YtilcdghliigngaaGreatDoor
namespace Go.Proofs.YtilcdghliigngaaGreatDoor
open Go.RowKit Go.Proofs.YtilcdghliigngaaGreatDoorGl Go.Proofs.YtilcdghliigngaaGreatDoorPm
set_option linter.unusedVariables false
set_option linter.unusedSimpArgs false
def cellS (s k q c : Nat) (to : Int) : List Syn := [⟨(q : Int), ((s + k * q + c : Nat) : Int), 1, 1⟩, ⟨-1 - (c : Int), ((s + k * q + c : Nat) : Int), 1, 2⟩, ⟨((s + k * q + c : Nat) : Int), to, 1, 2⟩]
def cellsTo (s k q : Nat) (r : List Int) (j : Nat) : List Syn := (List.range j).flatMap fun c => cellS s k q c (r.getD c 0)
def rowsTo (s k : Nat) (nx : List (List Int)) (i : Nat) : List Syn := (List.range i).flatMap fun q => cellsTo s k q (nx.getD q []) (nx.getD q []).length
def accS (s k : Nat) (acc : List Bool) (q : Nat) : List Syn := if acc.getD q false then [⟨(q : Int), ((s + s * k : Nat) : Int), 1, 1⟩] else []
def accTo (s k : Nat) (acc : List Bool) (i : Nat) : List Syn := (List.range i).flatMap (accS s k acc)
theorem accS_len (s k : Nat) (acc : List Bool) (q : Nat) : (accS s k acc q).length ≤ 1 := by unfold accS; split <;> simp
def machineN (nx : List (List Int)) (st : Int) (acc : List Bool) : NetP :=
  ⟨(((List.replicate nx.length (1 : Int)).map (setTh (gateP 0)) ++ (List.replicate (nx.length * (nx.headD []).length) (2 : Int)).map (setTh (gateP 0))) ++ [(1 : Int)].map (setTh (gateP 0))), (((nx.headD []).length + 1 : Nat) : Int),
    ([⟨-1 - ((nx.headD []).length : Int), st, 1, 1⟩] ++ rowsTo nx.length (nx.headD []).length nx nx.length) ++ accTo nx.length (nx.headD []).length acc acc.length⟩
def machineP (nx : List (List Int)) (st : Int) (acc : List Bool) : Except Int NetP :=
  if autoE nx st acc.length ≠ 0 then .error (autoE nx st acc.length) else .ok (machineN nx st acc)
theorem getD_at {α : Type} {xs : List α} {k : Nat} {x d : α} (h : xs[k]? = some x) : xs.getD k d = x := by simp [List.getD, h]
theorem cellS_len (s k q c : Nat) (to : Int) : (cellS s k q c to).length = 3 := rfl
theorem cellsTo_len (s k q : Nat) (r : List Int) (j : Nat) : (cellsTo s k q r j).length = j * 3 := rf_len (fun _ => cellS_len ..) j
theorem autoE_ok {nx : List (List Int)} {st : Int} {al : Nat} (h : autoE nx st al = 0) : wi (nx.length : Int) 1 32 ∧ al = nx.length ∧ wi ((nx.headD []).length : Int) 1 16 ∧ (∀ r ∈ nx, r.length = (nx.headD []).length) ∧ ∀ x ∈ nx.flatten ++ [st], wi x 0 ((nx.length : Int) - 1) := by
  unfold autoE at h
  split at h
  · rename_i h1
    split at h
    · rename_i h2
      split at h
      · rename_i h3
        split at h
        · cases h
        · rename_i h4
          refine ⟨h1, h2, h3, fun r hr => Decidable.of_not_not fun hne => h4 ⟨r, hr, hne⟩, fun x hx => ?_⟩
          have := firstE_zero h x hx
          unfold stE at this
          split at this
          · assumption
          · cases this
      · cases h
    · cases h
  · cases h
theorem rowsTo_len {s k : Nat} {nx : List (List Int)} (h : ∀ r ∈ nx, r.length = k) : ∀ {i : Nat}, i ≤ nx.length → (rowsTo s k nx i).length = i * (k * 3)
  | 0, _ => by simp [rowsTo]
  | i + 1, hi => by
    have ih := rowsTo_len (s := s) h (i := i) (by omega)
    have e : nx.getD i [] ∈ nx := by
      rw [List.getD_eq_getElem?_getD, List.getElem?_eq_getElem (by omega)]; simp
    unfold rowsTo at ih ⊢
    rw [rf_app, List.length_append, ih, cellsTo_len, h _ e, Nat.succ_mul]
theorem accTo_len (s k : Nat) (acc : List Bool) : ∀ (i : Nat), (accTo s k acc i).length ≤ i
  | 0 => by simp [accTo]
  | i + 1 => by
    have ih := accTo_len s k acc i
    unfold accTo at ih ⊢
    rw [rf_app, List.length_append]
    have := accS_len s k acc i
    omega
theorem cells_step {s k q : Nat} {r : List Int} {c : Nat} {v : Int} (h : r[c]? = some v) (X : List Syn) : X ++ cellsTo s k q r (c + 1) = (((X ++ cellsTo s k q r c) ++ [⟨(q : Int), ((s + k * q + c : Nat) : Int), 1, 1⟩]) ++ [⟨-1 - (c : Int), ((s + k * q + c : Nat) : Int), 1, 2⟩]) ++ [⟨((s + k * q + c : Nat) : Int), v, 1, 2⟩] := by
  unfold cellsTo
  rw [rf_app, getD_at h]
  simp [cellS]
theorem rows_step {s k : Nat} {nx : List (List Int)} {q : Nat} {r : List Int} (h : nx[q]? = some r) (X : List Syn) : X ++ rowsTo s k nx (q + 1) = (X ++ rowsTo s k nx q) ++ cellsTo s k q r r.length := by
  unfold rowsTo
  rw [rf_app, getD_at h, List.append_assoc]
theorem acc_step {s k : Nat} {acc : List Bool} {q : Nat} {b : Bool} (h : acc[q]? = some b) (X : List Syn) : X ++ accTo s k acc (q + 1) = (X ++ accTo s k acc q) ++ (if b then [⟨(q : Int), ((s + s * k : Nat) : Int), 1, 1⟩] else []) := by
  unfold accTo
  rw [rf_app, ← List.append_assoc]
  unfold accS
  rw [getD_at h]
theorem machine_c (na : Option Addr) (nc : Nat) (ls : List NL) (st : Int) (aa : Option Addr) (ac : Nat) (acc : List Bool) (w : World) (hL : RoLL w na ls) (hA : RoL w aa eBool acc) : Calls Tryz.prog 8 [.agg [.slice na ls.length nc, .int .i64 st, .slice aa acc.length ac].toArray].toArray w (RetR (machineP (ls.map (·.2)) st acc) w) := by
  refine fstart Tryz.func8 rfl rfl (Sat.nil w) ?_
  refine Cd.seq ?_
  refine Cd.region ?_
  refine Ops.box [.slice na ls.length nc, .int .i64 st, .slice aa acc.length ac] rfl rfl ?_
  intro b1
  refine Ops.alc [.slice none 0 0, .int .i64 0, .slice none 0 0] zc_40 ?_
  intro b2
  refine Ops.q (q_asg rfl) ?_
  refine Ops.to rfl ?_
  refine Cd.seq ?_
  refine Cd.seq ?_
  refine Cd.region ?_
  refine Ops.q (q_ldBN [.slice na ls.length nc, .int .i64 st, .slice aa acc.length ac] isA_29 sz_29 rfl (.there .here) rfl) ?_
  refine Ops.cp en_13 rfl (fun w hs => acheck_c _ _ ls st _ acc.length _ w (hL.later hs.below)) ?_
  refine Ops.q (q_asg rfl) ?_
  refine Ops.to rfl ?_
  refine Cd.seq ?_
  refine Cd.region ?_
  refine Ops.q (q_mv rfl) ?_
  by_cases h3 : autoE (ls.map (fun l : NL => l.2)) st acc.length = 0
  · refine Ops.q (q_cmp rfl rfl (c_nne h3)) ?_
    obtain ⟨hw1, hal, hw3, hrow, hin⟩ := autoE_ok h3
    rw [List.length_map] at hw1 hal
    obtain ⟨l0, hl0⟩ : ∃ x, ls[0]? = some x := ⟨_, List.getElem?_eq_getElem (by unfold wi at hw1; omega)⟩
    have hhd : (ls.map (·.2)).headD [] = l0.2 := by cases ls with | nil => simp at hl0 | cons x xs => simp at hl0; subst hl0; rfl
    rw [hhd] at hw3 hrow
    have hs1 : 1 ≤ ls.length ∧ ls.length ≤ 32 := by unfold wi at hw1; omega
    have hk1 : 1 ≤ l0.2.length ∧ l0.2.length ≤ 16 := by unfold wi at hw3; omega
    have hsk : 1 ≤ ls.length * l0.2.length ∧ ls.length * l0.2.length ≤ 512 := ⟨Nat.mul_pos (by omega) (by omega), Nat.le_trans (Nat.mul_le_mul hs1.2 hk1.2) (by decide)⟩
    obtain ⟨nb, no, rfl⟩ := RoL.pos hL.1 eNL_len hl0
    refine Ops.to rfl ?_
    refine Cd.cond_f rfl ?_
    refine Cd.skipTo rfl ?_
    refine Cd.seq ?_
    refine Cd.draw rfl (by kernel_rfl) (.cons (.there .here) .nil) ?_
    intro F4 St5 hP6 hF7 hR8
    refine Dr.q (i := 0) hP6 rfl (by kernel_rfl) (q_fa fo_29_0 rfl) ?_
    refine Dr.q (i := 1) hP6 rfl (by kernel_rfl) (q_ldB isA_26 rfl .here rfl) ?_
    refine Dr.q (i := 2) hP6 rfl (by kernel_rfl) (q_len esz_26 rfl) ?_
    refine Dr.q (i := 3) hP6 rfl (by kernel_rfl) (q_fa fo_29_0 rfl) ?_
    refine Dr.q (i := 4) hP6 rfl (by kernel_rfl) (q_ldB isA_26 rfl .here rfl) ?_
    refine Dr.q (i := 5) hP6 rfl (by kernel_rfl) (q_ix (k := 0) esz_26 rfl rfl (by omega)) ?_
    refine Dr.q (i := 6) hP6 rfl (by kernel_rfl) (q_ldR isA_31 rfl (hL.1.at0 eNL_len hl0 rfl)) ?_
    refine Dr.q (i := 7) hP6 rfl (by kernel_rfl) (q_len esz_31 rfl) ?_
    refine Dr.q (i := 8) hP6 rfl (by kernel_rfl) (q_asg rfl) ?_
    refine Dr.tail 9 (by kernel_rfl) ?_
    refine Ops.sat ?_ (fun _ hs => hR8 .here hs)
    refine Ops.q (q_asg rfl) ?_
    refine Ops.to rfl ?_
    refine Cd.seq ?_
    refine Cd.region ?_
    refine Ops.q (q_mv rfl) ?_
    refine Ops.q (q_ar (v := ((l0.2.length + 1 : Nat) : Int)) rfl rfl (a_inc (by omega))) ?_
    refine Ops.q (q_bld [.slice none 0 0, .int .i64 ((l0.2.length + 1 : Nat) : Int), .slice none 0 0] pls_40 zc_40 rfl rfl) ?_
    refine Ops.q (q_bld [.slice none 0 0, .int .i64 ((l0.2.length + 1 : Nat) : Int), .slice none 0 0] pls_60 zc_60 rfl rfl) ?_
    refine Ops.alc [.slice none 0 0, .int .i64 0, .slice none 0 0] zc_60 ?_
    intro b9
    refine Ops.stB [.slice none 0 0, .int .i64 ((l0.2.length + 1 : Nat) : Int), .slice none 0 0] [.slice none 0 0, .int .i64 ((l0.2.length + 1 : Nat) : Int), .slice none 0 0] sz_60 rfl rfl rfl (one rfl) .here rfl rfl ?_
    refine Ops.to rfl ?_
    refine Cd.seq ?_
    refine Cd.nilRow 109 4 ?_
    refine Cd.nilRow 62 8 ?_
    change Cd _ _ _ _ _ _ _ _ ([row none 0 62 8 (([] : List Prm).length) (([] : List Prm).flatMap ePrm), row none 0 109 4 (([] : List Syn).length) (([] : List Syn).flatMap eSyn), blk b9 60 [.slice none (([] : List Prm).length) 0, .int .i64 ((l0.2.length + 1 : Nat) : Int), .slice none (([] : List Syn).length) 0], blk b1 29 [.slice (some ⟨nb, no, none⟩) ls.length nc, .int .i64 st, .slice aa acc.length ac], blk b2 40 [.slice none 0 0, .int .i64 0, .slice none 0 0]])
    refine Cd.region ?_
    refine Ops.cp en_14 rfl (fun w hs => gate_c w) ?_
    refine Ops.alc [.int .i64 0, .int .i64 0, .int .i64 0, .int .i64 0, .int .i64 0, .int .i64 0, .int .i64 0, .int .i64 0] zc_62 ?_
    intro b10
    refine Ops.stB [.int .i64 ((gateP 0).lk), .int .i64 ((gateP 0).leak), .int .i64 ((gateP 0).bias), .int .i64 ((gateP 0).th), .int .i64 ((gateP 0).rk), .int .i64 ((gateP 0).rs), .int .i64 ((gateP 0).fl), .int .i64 ((gateP 0).rest)] [.int .i64 ((gateP 0).lk), .int .i64 ((gateP 0).leak), .int .i64 ((gateP 0).bias), .int .i64 ((gateP 0).th), .int .i64 ((gateP 0).rk), .int .i64 ((gateP 0).rs), .int .i64 ((gateP 0).fl), .int .i64 ((gateP 0).rest)] sz_62 rfl rfl rfl (one rfl) .here rfl rfl ?_
    refine Ops.to rfl ?_
    refine Cd.seq ?_
    refine Cd.region ?_
    refine Ops.q (q_ldBN [.int .i64 ((gateP 0).lk), .int .i64 ((gateP 0).leak), .int .i64 ((gateP 0).bias), .int .i64 ((gateP 0).th), .int .i64 ((gateP 0).rk), .int .i64 ((gateP 0).rs), .int .i64 ((gateP 0).fl), .int .i64 ((gateP 0).rest)] isA_62 sz_62 rfl .here rfl) ?_
    refine Ops.cl (α := Nat × Nat) (v := fun x => .func (.func 48) #[] #[.pointer (some ⟨x.1, 0, none⟩), .pointer (some ⟨x.2, 0, none⟩)]) (B := fun x => [blk x.1 62 (ePrm (gateP 0)), blk x.2 107 [.pointer (some ⟨b9, 0, none⟩)]]) en_15 rfl (fun w hs => grow_c b9 (gateP 0) w) ?_
    rintro ⟨pb11, bb12⟩
    refine Ops.q (q_asg rfl) ?_
    refine Ops.to rfl ?_
    refine Cd.seq ?_
    refine Cd.region ?_
    refine Ops.q (q_mv rfl) ?_
    refine Ops.q (q_mkf rfl rfl) ?_
    refine Ops.q (q_mkf rfl rfl) ?_
    refine Ops.q (q_asg rfl) ?_
    refine Ops.q (q_asg rfl) ?_
    refine Ops.q (q_asg rfl) ?_
    refine Ops.to rfl ?_
    refine Cd.seq ?_
    refine Cd.region ?_
    refine Ops.q (q_mv rfl) ?_
    refine Ops.lit [.int .i64 1] el_31 zsb_3 rfl rfl ⟨by decide, by decide⟩ rfl ?_
    intro b13
    refine Ops.q (q_mv rfl) ?_
    refine Ops.cm (α := Option Addr × Nat) (v := fun p => .slice p.1 (List.replicate ls.length (1 : Int)).length p.2) (A' := fun p => row p.1 p.2 3 1 (List.replicate ls.length (1 : Int)).length ((List.replicate ls.length (1 : Int)).flatMap eInt) :: [row (some ⟨b13, 0, none⟩) 1 3 1 1 [.int .i64 1], blk pb11 62 (ePrm (gateP 0)), blk bb12 107 [.pointer (some ⟨b9, 0, none⟩)], blk b10 62 [.int .i64 ((gateP 0).lk), .int .i64 ((gateP 0).leak), .int .i64 ((gateP 0).bias), .int .i64 ((gateP 0).th), .int .i64 ((gateP 0).rk), .int .i64 ((gateP 0).rs), .int .i64 ((gateP 0).fl), .int .i64 ((gateP 0).rest)], row none 0 62 8 (([] : List Prm).length) (([] : List Prm).flatMap ePrm), row none 0 109 4 (([] : List Syn).length) (([] : List Syn).flatMap eSyn), blk b9 60 [.slice none (([] : List Prm).length) 0, .int .i64 ((l0.2.length + 1 : Nat) : Int), .slice none (([] : List Syn).length) 0], blk b1 29 [.slice (some ⟨nb, no, none⟩) ls.length nc, .int .i64 st, .slice aa acc.length ac], blk b2 40 [.slice none 0 0, .int .i64 0, .slice none 0 0]]) en_18 rfl (fun w hs => repeat_l b13 1 ls.length _ w _ (by omega) ((((((((((hs.pull .p8).pull .p8).pull .p8).pull .p8).pull .p8).pull .p8).pull .p8).pull .p8).pull .p8))) ?_
    rintro ⟨a14, c15⟩
    refine Ops.cv (α := Option Addr × Nat) (k := 48) (first := []) (caps := [.pointer (some ⟨pb11, 0, none⟩), .pointer (some ⟨bb12, 0, none⟩)]) (vs := [.slice a14 ((List.replicate ls.length (1 : Int)).length) c15]) (v := fun _ => .tuple #[]) (A' := fun p => [blk b9 60 [.slice p.1 ((([] : List Prm) ++ (List.replicate ls.length (1 : Int)).map (setTh (gateP 0))).length) p.2, .int .i64 ((l0.2.length + 1 : Nat) : Int), .slice none (([] : List Syn).length) 0], row p.1 p.2 62 8 ((([] : List Prm) ++ (List.replicate ls.length (1 : Int)).map (setTh (gateP 0))).length) ((([] : List Prm) ++ (List.replicate ls.length (1 : Int)).map (setTh (gateP 0))).flatMap ePrm), row none 0 109 4 (([] : List Syn).length) (([] : List Syn).flatMap eSyn), blk pb11 62 (ePrm (gateP 0)), blk bb12 107 [.pointer (some ⟨b9, 0, none⟩)], row a14 c15 3 1 ((List.replicate ls.length (1 : Int)).length) ((List.replicate ls.length (1 : Int)).flatMap eInt), row (some ⟨b13, 0, none⟩) 1 3 1 1 [.int .i64 1], blk b10 62 [.int .i64 ((gateP 0).lk), .int .i64 ((gateP 0).leak), .int .i64 ((gateP 0).bias), .int .i64 ((gateP 0).th), .int .i64 ((gateP 0).rk), .int .i64 ((gateP 0).rs), .int .i64 ((gateP 0).fl), .int .i64 ((gateP 0).rest)], blk b1 29 [.slice (some ⟨nb, no, none⟩) ls.length nc, .int .i64 st, .slice aa acc.length ac], blk b2 40 [.slice none 0 0, .int .i64 0, .slice none 0 0]]) en_48 rfl rfl (fun w hs => grown_c b9 _ _ _ _ ([] : List Prm) _ ([] : List Syn) pb11 bb12 _ _ (List.replicate ls.length (1 : Int)) _ _ w _ (by simp only [List.length_append, List.length_map, List.length_replicate, List.length_cons, List.length_nil]; omega) (((((((((((hs.pull .p9).pull .p9).pull .p6).pull .p4).pull .p4).pull .p6).pull .p6).pull .p8).pull .p8).pull .p9))) ?_
    rintro ⟨a16, c17⟩
    refine Ops.to rfl ?_
    refine Cd.seq ?_
    refine Cd.region ?_
    refine Ops.q (q_mv rfl) ?_
    refine Ops.lit [.int .i64 2] el_31 zsb_3 rfl rfl ⟨by decide, by decide⟩ rfl ?_
    intro b18
    refine Ops.q (q_mv rfl) ?_
    refine Ops.q (q_mv rfl) ?_
    refine Ops.q (q_ar (v := ((ls.length * l0.2.length : Nat) : Int)) rfl rfl ((by rw [a_mul (by rw [← Int.natCast_mul]; omega), ← Int.natCast_mul]))) ?_
    refine Ops.cm (α := Option Addr × Nat) (v := fun p => .slice p.1 (List.replicate (ls.length * l0.2.length) (2 : Int)).length p.2) (A' := fun p => row p.1 p.2 3 1 (List.replicate (ls.length * l0.2.length) (2 : Int)).length ((List.replicate (ls.length * l0.2.length) (2 : Int)).flatMap eInt) :: [row (some ⟨b18, 0, none⟩) 1 3 1 1 [.int .i64 2], blk b9 60 [.slice a16 ((([] : List Prm) ++ (List.replicate ls.length (1 : Int)).map (setTh (gateP 0))).length) c17, .int .i64 ((l0.2.length + 1 : Nat) : Int), .slice none (([] : List Syn).length) 0], row a16 c17 62 8 ((([] : List Prm) ++ (List.replicate ls.length (1 : Int)).map (setTh (gateP 0))).length) ((([] : List Prm) ++ (List.replicate ls.length (1 : Int)).map (setTh (gateP 0))).flatMap ePrm), row none 0 109 4 (([] : List Syn).length) (([] : List Syn).flatMap eSyn), blk pb11 62 (ePrm (gateP 0)), blk bb12 107 [.pointer (some ⟨b9, 0, none⟩)], row a14 c15 3 1 ((List.replicate ls.length (1 : Int)).length) ((List.replicate ls.length (1 : Int)).flatMap eInt), row (some ⟨b13, 0, none⟩) 1 3 1 1 [.int .i64 1], blk b10 62 [.int .i64 ((gateP 0).lk), .int .i64 ((gateP 0).leak), .int .i64 ((gateP 0).bias), .int .i64 ((gateP 0).th), .int .i64 ((gateP 0).rk), .int .i64 ((gateP 0).rs), .int .i64 ((gateP 0).fl), .int .i64 ((gateP 0).rest)], blk b1 29 [.slice (some ⟨nb, no, none⟩) ls.length nc, .int .i64 st, .slice aa acc.length ac], blk b2 40 [.slice none 0 0, .int .i64 0, .slice none 0 0]]) en_18 rfl (fun w hs => repeat_l b18 2 (ls.length * l0.2.length) _ w _ (by omega) ((((((((((((hs.pull .p10).pull .p10).pull .p10).pull .p10).pull .p10).pull .p10).pull .p10).pull .p10).pull .p10).pull .p10).pull .p10))) ?_
    rintro ⟨a19, c20⟩
    refine Ops.cv (α := Option Addr × Nat) (k := 48) (first := []) (caps := [.pointer (some ⟨pb11, 0, none⟩), .pointer (some ⟨bb12, 0, none⟩)]) (vs := [.slice a19 ((List.replicate (ls.length * l0.2.length) (2 : Int)).length) c20]) (v := fun _ => .tuple #[]) (A' := fun p => [blk b9 60 [.slice p.1 (((([] : List Prm) ++ (List.replicate ls.length (1 : Int)).map (setTh (gateP 0))) ++ (List.replicate (ls.length * l0.2.length) (2 : Int)).map (setTh (gateP 0))).length) p.2, .int .i64 ((l0.2.length + 1 : Nat) : Int), .slice none (([] : List Syn).length) 0], row p.1 p.2 62 8 (((([] : List Prm) ++ (List.replicate ls.length (1 : Int)).map (setTh (gateP 0))) ++ (List.replicate (ls.length * l0.2.length) (2 : Int)).map (setTh (gateP 0))).length) (((([] : List Prm) ++ (List.replicate ls.length (1 : Int)).map (setTh (gateP 0))) ++ (List.replicate (ls.length * l0.2.length) (2 : Int)).map (setTh (gateP 0))).flatMap ePrm), row none 0 109 4 (([] : List Syn).length) (([] : List Syn).flatMap eSyn), blk pb11 62 (ePrm (gateP 0)), blk bb12 107 [.pointer (some ⟨b9, 0, none⟩)], row a19 c20 3 1 ((List.replicate (ls.length * l0.2.length) (2 : Int)).length) ((List.replicate (ls.length * l0.2.length) (2 : Int)).flatMap eInt), row (some ⟨b18, 0, none⟩) 1 3 1 1 [.int .i64 2], row a14 c15 3 1 ((List.replicate ls.length (1 : Int)).length) ((List.replicate ls.length (1 : Int)).flatMap eInt), row (some ⟨b13, 0, none⟩) 1 3 1 1 [.int .i64 1], blk b10 62 [.int .i64 ((gateP 0).lk), .int .i64 ((gateP 0).leak), .int .i64 ((gateP 0).bias), .int .i64 ((gateP 0).th), .int .i64 ((gateP 0).rk), .int .i64 ((gateP 0).rs), .int .i64 ((gateP 0).fl), .int .i64 ((gateP 0).rest)], blk b1 29 [.slice (some ⟨nb, no, none⟩) ls.length nc, .int .i64 st, .slice aa acc.length ac], blk b2 40 [.slice none 0 0, .int .i64 0, .slice none 0 0]]) en_48 rfl rfl (fun w hs => grown_c b9 _ _ _ _ (([] : List Prm) ++ (List.replicate ls.length (1 : Int)).map (setTh (gateP 0))) _ ([] : List Syn) pb11 bb12 _ _ (List.replicate (ls.length * l0.2.length) (2 : Int)) _ _ w _ (by simp only [List.length_append, List.length_map, List.length_replicate, List.length_cons, List.length_nil]; omega) (((((((((((((hs.pull .p11).pull .p11).pull .p11).pull .p11).pull .p11).pull .p6).pull .p6).pull .p11).pull .p11).pull .p11).pull .p11).pull .p11))) ?_
    rintro ⟨a21, c22⟩
    refine Ops.to rfl ?_
    refine Cd.seq ?_
    refine Cd.region ?_
    refine Ops.q (q_mv rfl) ?_
    refine Ops.lit [.int .i64 1] el_31 zsb_3 rfl rfl ⟨by decide, by decide⟩ rfl ?_
    intro b23
    refine Ops.cv (α := Option Addr × Nat) (k := 48) (first := []) (caps := [.pointer (some ⟨pb11, 0, none⟩), .pointer (some ⟨bb12, 0, none⟩)]) (vs := [.slice (some ⟨b23, 0, none⟩) ([(1 : Int)].length) 1]) (v := fun _ => .tuple #[]) (A' := fun p => [blk b9 60 [.slice p.1 ((((([] : List Prm) ++ (List.replicate ls.length (1 : Int)).map (setTh (gateP 0))) ++ (List.replicate (ls.length * l0.2.length) (2 : Int)).map (setTh (gateP 0))) ++ [(1 : Int)].map (setTh (gateP 0))).length) p.2, .int .i64 ((l0.2.length + 1 : Nat) : Int), .slice none (([] : List Syn).length) 0], row p.1 p.2 62 8 ((((([] : List Prm) ++ (List.replicate ls.length (1 : Int)).map (setTh (gateP 0))) ++ (List.replicate (ls.length * l0.2.length) (2 : Int)).map (setTh (gateP 0))) ++ [(1 : Int)].map (setTh (gateP 0))).length) ((((([] : List Prm) ++ (List.replicate ls.length (1 : Int)).map (setTh (gateP 0))) ++ (List.replicate (ls.length * l0.2.length) (2 : Int)).map (setTh (gateP 0))) ++ [(1 : Int)].map (setTh (gateP 0))).flatMap ePrm), row none 0 109 4 (([] : List Syn).length) (([] : List Syn).flatMap eSyn), blk pb11 62 (ePrm (gateP 0)), blk bb12 107 [.pointer (some ⟨b9, 0, none⟩)], row (some ⟨b23, 0, none⟩) 1 3 1 ([(1 : Int)].length) ([(1 : Int)].flatMap eInt), row a19 c20 3 1 ((List.replicate (ls.length * l0.2.length) (2 : Int)).length) ((List.replicate (ls.length * l0.2.length) (2 : Int)).flatMap eInt), row (some ⟨b18, 0, none⟩) 1 3 1 1 [.int .i64 2], row a14 c15 3 1 ((List.replicate ls.length (1 : Int)).length) ((List.replicate ls.length (1 : Int)).flatMap eInt), row (some ⟨b13, 0, none⟩) 1 3 1 1 [.int .i64 1], blk b10 62 [.int .i64 ((gateP 0).lk), .int .i64 ((gateP 0).leak), .int .i64 ((gateP 0).bias), .int .i64 ((gateP 0).th), .int .i64 ((gateP 0).rk), .int .i64 ((gateP 0).rs), .int .i64 ((gateP 0).fl), .int .i64 ((gateP 0).rest)], blk b1 29 [.slice (some ⟨nb, no, none⟩) ls.length nc, .int .i64 st, .slice aa acc.length ac], blk b2 40 [.slice none 0 0, .int .i64 0, .slice none 0 0]]) en_48 rfl rfl (fun w hs => grown_c b9 _ _ _ _ ((([] : List Prm) ++ (List.replicate ls.length (1 : Int)).map (setTh (gateP 0))) ++ (List.replicate (ls.length * l0.2.length) (2 : Int)).map (setTh (gateP 0))) _ ([] : List Syn) pb11 bb12 _ _ [(1 : Int)] _ _ w _ (by simp only [List.length_append, List.length_map, List.length_replicate, List.length_cons, List.length_nil]; omega) ((((((((((((((hs.pull .p12).pull .p12).pull .p12).pull .p12).pull .p12).pull .p12).pull .p12).pull .p7).pull .p12).pull .p12).pull .p12).pull .p12).pull .p12))) ?_
    rintro ⟨a24, c25⟩
    refine Ops.to rfl ?_
    refine Cd.seq ?_
    refine Cd.region ?_
    refine Ops.q (q_mv rfl) ?_
    refine Ops.q (q_mv rfl) ?_
    refine Ops.q (q_fa fo_29_1 rfl) ?_
    refine Ops.q (q_ldB isA_3 rfl .p11 rfl) ?_
    refine Ops.cv (α := Option Addr × Nat) (k := 17) (first := [.pointer (some ⟨b9, 0, none⟩)]) (caps := []) (vs := [.int .i64 (l0.2.length : Int), .int .i64 st, .int .i64 1, .int .i64 1]) (v := fun _ => .tuple #[]) (A' := fun p => [blk b9 60 [.slice a24 ((((([] : List Prm) ++ (List.replicate ls.length (1 : Int)).map (setTh (gateP 0))) ++ (List.replicate (ls.length * l0.2.length) (2 : Int)).map (setTh (gateP 0))) ++ [(1 : Int)].map (setTh (gateP 0))).length) c25, .int .i64 ((l0.2.length + 1 : Nat) : Int), .slice p.1 ((([] : List Syn) ++ [(⟨-1 - (l0.2.length : Int), st, 1, 1⟩ : Syn)]).length) p.2], row a24 c25 62 8 ((((([] : List Prm) ++ (List.replicate ls.length (1 : Int)).map (setTh (gateP 0))) ++ (List.replicate (ls.length * l0.2.length) (2 : Int)).map (setTh (gateP 0))) ++ [(1 : Int)].map (setTh (gateP 0))).length) ((((([] : List Prm) ++ (List.replicate ls.length (1 : Int)).map (setTh (gateP 0))) ++ (List.replicate (ls.length * l0.2.length) (2 : Int)).map (setTh (gateP 0))) ++ [(1 : Int)].map (setTh (gateP 0))).flatMap ePrm), row p.1 p.2 109 4 ((([] : List Syn) ++ [(⟨-1 - (l0.2.length : Int), st, 1, 1⟩ : Syn)]).length) ((([] : List Syn) ++ [(⟨-1 - (l0.2.length : Int), st, 1, 1⟩ : Syn)]).flatMap eSyn), blk pb11 62 (ePrm (gateP 0)), blk bb12 107 [.pointer (some ⟨b9, 0, none⟩)], row (some ⟨b23, 0, none⟩) 1 3 1 ([(1 : Int)].length) ([(1 : Int)].flatMap eInt), row a19 c20 3 1 ((List.replicate (ls.length * l0.2.length) (2 : Int)).length) ((List.replicate (ls.length * l0.2.length) (2 : Int)).flatMap eInt), row (some ⟨b18, 0, none⟩) 1 3 1 1 [.int .i64 2], row a14 c15 3 1 ((List.replicate ls.length (1 : Int)).length) ((List.replicate ls.length (1 : Int)).flatMap eInt), row (some ⟨b13, 0, none⟩) 1 3 1 1 [.int .i64 1], blk b10 62 [.int .i64 ((gateP 0).lk), .int .i64 ((gateP 0).leak), .int .i64 ((gateP 0).bias), .int .i64 ((gateP 0).th), .int .i64 ((gateP 0).rk), .int .i64 ((gateP 0).rs), .int .i64 ((gateP 0).fl), .int .i64 ((gateP 0).rest)], blk b1 29 [.slice (some ⟨nb, no, none⟩) ls.length nc, .int .i64 st, .slice aa acc.length ac], blk b2 40 [.slice none 0 0, .int .i64 0, .slice none 0 0]]) en_17 rfl rfl (fun w hs => feed_c _ _ _ _ _ (((([] : List Prm) ++ (List.replicate ls.length (1 : Int)).map (setTh (gateP 0))) ++ (List.replicate (ls.length * l0.2.length) (2 : Int)).map (setTh (gateP 0))) ++ [(1 : Int)].map (setTh (gateP 0))) _ ([] : List Syn) (l0.2.length : Int) st 1 1 _ w _ (by simp) (by omega) ((((((((((((((hs.pull .p12).pull .p12).pull .p12).pull .p12).pull .p12).pull .p12).pull .p12).pull .p12).pull .p12).pull .p12).pull .p12).pull .p12).pull .p12))) ?_
    rintro ⟨a26, c27⟩
    refine Ops.to rfl ?_
    refine Cd.seq ?_
    refine Cd.seq ?_
    refine Cd.region ?_
    refine Ops.q (q_fa fo_29_0 rfl) ?_
    refine Ops.q (q_ldB isA_26 rfl .p11 rfl) ?_
    refine Ops.q (q_len esz_26 rfl) ?_
    refine Ops.q (q_mv rfl) ?_
    refine Ops.to rfl ?_
    refine Cd.block ?_
    refine Cd.lp (σ := Nat × Option Addr × Nat) (fun s => s.1 ≤ ls.length) (fun s => [(1, .pointer (some ⟨b1, 0, none⟩)), (2, .pointer (some ⟨b2, 0, none⟩)), (5, .int .i64 (ls.length : Int)), (6, .int .i64 (l0.2.length : Int)), (7, .pointer (some ⟨b9, 0, none⟩)), (11, .func (.func 16) #[.pointer (some ⟨b9, 0, none⟩)] #[]), (12, .func (.func 17) #[.pointer (some ⟨b9, 0, none⟩)] #[]), (65, .slice (some ⟨nb, no, none⟩) ls.length nc), (66, .int .i64 (ls.length : Int)), (67, .int .i64 (s.1 : Int))]) (fun s => [blk b9 60 [.slice a24 ((((([] : List Prm) ++ (List.replicate ls.length (1 : Int)).map (setTh (gateP 0))) ++ (List.replicate (ls.length * l0.2.length) (2 : Int)).map (setTh (gateP 0))) ++ [(1 : Int)].map (setTh (gateP 0))).length) c25, .int .i64 ((l0.2.length + 1 : Nat) : Int), .slice s.2.1 (((([] : List Syn) ++ [(⟨-1 - (l0.2.length : Int), st, 1, 1⟩ : Syn)]) ++ rowsTo ls.length l0.2.length (ls.map (·.2)) s.1).length) s.2.2], row a24 c25 62 8 ((((([] : List Prm) ++ (List.replicate ls.length (1 : Int)).map (setTh (gateP 0))) ++ (List.replicate (ls.length * l0.2.length) (2 : Int)).map (setTh (gateP 0))) ++ [(1 : Int)].map (setTh (gateP 0))).length) ((((([] : List Prm) ++ (List.replicate ls.length (1 : Int)).map (setTh (gateP 0))) ++ (List.replicate (ls.length * l0.2.length) (2 : Int)).map (setTh (gateP 0))) ++ [(1 : Int)].map (setTh (gateP 0))).flatMap ePrm), row s.2.1 s.2.2 109 4 (((([] : List Syn) ++ [(⟨-1 - (l0.2.length : Int), st, 1, 1⟩ : Syn)]) ++ rowsTo ls.length l0.2.length (ls.map (·.2)) s.1).length) (((([] : List Syn) ++ [(⟨-1 - (l0.2.length : Int), st, 1, 1⟩ : Syn)]) ++ rowsTo ls.length l0.2.length (ls.map (·.2)) s.1).flatMap eSyn), blk b1 29 [.slice (some ⟨nb, no, none⟩) ls.length nc, .int .i64 st, .slice aa acc.length ac], blk b2 40 [.slice none 0 0, .int .i64 0, .slice none 0 0]]) (fun s => ls.length - s.1) (0, a26, c27) (Nat.zero_le _) ⟨rfl, rfl, rfl, rfl, rfl, rfl, rfl, rfl, rfl, rfl, trivial⟩ (fun _ hs => by have h1 := (((((((((((((hs.pull .p12).pull .p12).pull .p4).pull .p4).pull .p4).pull .p5).drop.pull .p5).drop.pull .p5).drop.pull .p5).drop.pull .p5).drop.pull .p5).drop.pull .p5).drop.pull .p5).drop; (try dsimp only); rw [show ((([] : List Syn) ++ [(⟨-1 - (l0.2.length : Int), st, 1, 1⟩ : Syn)]) ++ rowsTo ls.length l0.2.length (ls.map (·.2)) 0) = (([] : List Syn) ++ [(⟨-1 - (l0.2.length : Int), st, 1, 1⟩ : Syn)]) from List.append_nil _]; exact h1) ?_
    rintro ⟨q, qa, qc⟩ hI
    dsimp only at hI
    change Cd _ _ _ _ _ _ _ [(1, .pointer (some ⟨b1, 0, none⟩)), (2, .pointer (some ⟨b2, 0, none⟩)), (5, .int .i64 (ls.length : Int)), (6, .int .i64 (l0.2.length : Int)), (7, .pointer (some ⟨b9, 0, none⟩)), (11, .func (.func 16) #[.pointer (some ⟨b9, 0, none⟩)] #[]), (12, .func (.func 17) #[.pointer (some ⟨b9, 0, none⟩)] #[]), (65, .slice (some ⟨nb, no, none⟩) ls.length nc), (66, .int .i64 (ls.length : Int)), (67, .int .i64 (q : Int))] ([blk b9 60 [.slice a24 ((((([] : List Prm) ++ (List.replicate ls.length (1 : Int)).map (setTh (gateP 0))) ++ (List.replicate (ls.length * l0.2.length) (2 : Int)).map (setTh (gateP 0))) ++ [(1 : Int)].map (setTh (gateP 0))).length) c25, .int .i64 ((l0.2.length + 1 : Nat) : Int), .slice qa (((([] : List Syn) ++ [(⟨-1 - (l0.2.length : Int), st, 1, 1⟩ : Syn)]) ++ rowsTo ls.length l0.2.length (ls.map (·.2)) q).length) qc], row a24 c25 62 8 ((((([] : List Prm) ++ (List.replicate ls.length (1 : Int)).map (setTh (gateP 0))) ++ (List.replicate (ls.length * l0.2.length) (2 : Int)).map (setTh (gateP 0))) ++ [(1 : Int)].map (setTh (gateP 0))).length) ((((([] : List Prm) ++ (List.replicate ls.length (1 : Int)).map (setTh (gateP 0))) ++ (List.replicate (ls.length * l0.2.length) (2 : Int)).map (setTh (gateP 0))) ++ [(1 : Int)].map (setTh (gateP 0))).flatMap ePrm), row qa qc 109 4 (((([] : List Syn) ++ [(⟨-1 - (l0.2.length : Int), st, 1, 1⟩ : Syn)]) ++ rowsTo ls.length l0.2.length (ls.map (·.2)) q).length) (((([] : List Syn) ++ [(⟨-1 - (l0.2.length : Int), st, 1, 1⟩ : Syn)]) ++ rowsTo ls.length l0.2.length (ls.map (·.2)) q).flatMap eSyn), blk b1 29 [.slice (some ⟨nb, no, none⟩) ls.length nc, .int .i64 st, .slice aa acc.length ac], blk b2 40 [.slice none 0 0, .int .i64 0, .slice none 0 0]])
    refine Cd.seq ?_
    refine Cd.region ?_
    by_cases hq0 : (q : Int) < (ls.length : Int)
    · refine Ops.q (q_cmp rfl rfl (c_lt hq0)) ?_
      obtain ⟨⟨⟨xa, xc⟩, xr⟩, hx⟩ : ∃ x, ls[q]? = some x := ⟨_, List.getElem?_eq_getElem (by omega)⟩
      have hxq : (ls.map (·.2))[q]? = some xr := by rw [List.getElem?_map, hx]; rfl
      have hxm : xr ∈ ls.map (·.2) := List.mem_iff_getElem?.2 ⟨q, hxq⟩
      have hxl := hrow xr hxm
      have hxe : RoL w xa eInt xr := hL.2 _ (List.mem_iff_getElem?.2 ⟨q, hx⟩)
      obtain ⟨xv, hxv⟩ : ∃ v, xr[0]? = some v := ⟨_, List.getElem?_eq_getElem (by omega)⟩
      obtain ⟨xb, xo, rfl⟩ := RoL.pos hxe eInt_len hxv
      refine Ops.to rfl ?_
      refine Cd.seq ?_
      refine Cd.cond_t rfl ?_
      refine Cd.skipTo rfl ?_
      refine Cd.seq ?_
      refine Cd.block ?_
      refine Cd.seq ?_
      refine Cd.region ?_
      refine Ops.q (q_mv rfl) ?_
      refine Ops.q (q_ix (k := q) esz_26 rfl rfl (by omega)) ?_
      refine Ops.q (q_ldR isA_31 rfl (hL.1.at0 eNL_len hx rfl)) ?_
      change Ops _ _ _ _ _ _ _ _ ((71, .slice (some ⟨xb, xo, none⟩) xr.length xc) :: _) _
      refine Ops.q (q_asg rfl) ?_
      refine Ops.q (q_asg rfl) ?_
      refine Ops.to rfl ?_
      refine Cd.seq ?_
      refine Cd.region ?_
      refine Ops.q (q_mv rfl) ?_
      refine Ops.q (q_len esz_31 rfl) ?_
      refine Ops.q (q_mv rfl) ?_
      refine Ops.to rfl ?_
      refine Cd.block ?_
      refine Cd.lp (σ := Nat × Option Addr × Nat) (fun s => s.1 ≤ xr.length) (fun s => [(1, .pointer (some ⟨b1, 0, none⟩)), (2, .pointer (some ⟨b2, 0, none⟩)), (5, .int .i64 (ls.length : Int)), (6, .int .i64 (l0.2.length : Int)), (7, .pointer (some ⟨b9, 0, none⟩)), (11, .func (.func 16) #[.pointer (some ⟨b9, 0, none⟩)] #[]), (12, .func (.func 17) #[.pointer (some ⟨b9, 0, none⟩)] #[]), (65, .slice (some ⟨nb, no, none⟩) ls.length nc), (66, .int .i64 (ls.length : Int)), (67, .int .i64 (q : Int)), (13, .int .i64 (q : Int)), (72, .slice (some ⟨xb, xo, none⟩) xr.length xc), (73, .int .i64 (xr.length : Int)), (74, .int .i64 (s.1 : Int))]) (fun s => [blk b9 60 [.slice a24 ((((([] : List Prm) ++ (List.replicate ls.length (1 : Int)).map (setTh (gateP 0))) ++ (List.replicate (ls.length * l0.2.length) (2 : Int)).map (setTh (gateP 0))) ++ [(1 : Int)].map (setTh (gateP 0))).length) c25, .int .i64 ((l0.2.length + 1 : Nat) : Int), .slice s.2.1 ((((([] : List Syn) ++ [(⟨-1 - (l0.2.length : Int), st, 1, 1⟩ : Syn)]) ++ rowsTo ls.length l0.2.length (ls.map (·.2)) q) ++ cellsTo ls.length l0.2.length q xr s.1).length) s.2.2], row a24 c25 62 8 ((((([] : List Prm) ++ (List.replicate ls.length (1 : Int)).map (setTh (gateP 0))) ++ (List.replicate (ls.length * l0.2.length) (2 : Int)).map (setTh (gateP 0))) ++ [(1 : Int)].map (setTh (gateP 0))).length) ((((([] : List Prm) ++ (List.replicate ls.length (1 : Int)).map (setTh (gateP 0))) ++ (List.replicate (ls.length * l0.2.length) (2 : Int)).map (setTh (gateP 0))) ++ [(1 : Int)].map (setTh (gateP 0))).flatMap ePrm), row s.2.1 s.2.2 109 4 ((((([] : List Syn) ++ [(⟨-1 - (l0.2.length : Int), st, 1, 1⟩ : Syn)]) ++ rowsTo ls.length l0.2.length (ls.map (·.2)) q) ++ cellsTo ls.length l0.2.length q xr s.1).length) ((((([] : List Syn) ++ [(⟨-1 - (l0.2.length : Int), st, 1, 1⟩ : Syn)]) ++ rowsTo ls.length l0.2.length (ls.map (·.2)) q) ++ cellsTo ls.length l0.2.length q xr s.1).flatMap eSyn), blk b1 29 [.slice (some ⟨nb, no, none⟩) ls.length nc, .int .i64 st, .slice aa acc.length ac], blk b2 40 [.slice none 0 0, .int .i64 0, .slice none 0 0]]) (fun s => xr.length - s.1) (0, qa, qc) (Nat.zero_le _) ⟨rfl, rfl, rfl, rfl, rfl, rfl, rfl, rfl, rfl, rfl, rfl, rfl, rfl, rfl, trivial⟩ (fun _ hs => by have h1 := (((((hs.pull .p4).pull .p4).pull .p4).pull .p4).pull .p4); (try dsimp only); rw [show (((([] : List Syn) ++ [(⟨-1 - (l0.2.length : Int), st, 1, 1⟩ : Syn)]) ++ rowsTo ls.length l0.2.length (ls.map (·.2)) q) ++ cellsTo ls.length l0.2.length q xr 0) = ((([] : List Syn) ++ [(⟨-1 - (l0.2.length : Int), st, 1, 1⟩ : Syn)]) ++ rowsTo ls.length l0.2.length (ls.map (·.2)) q) from List.append_nil _]; exact h1) ?_
      rintro ⟨c, ra, rc⟩ hI
      dsimp only at hI
      change Cd _ _ _ _ _ _ _ [(1, .pointer (some ⟨b1, 0, none⟩)), (2, .pointer (some ⟨b2, 0, none⟩)), (5, .int .i64 (ls.length : Int)), (6, .int .i64 (l0.2.length : Int)), (7, .pointer (some ⟨b9, 0, none⟩)), (11, .func (.func 16) #[.pointer (some ⟨b9, 0, none⟩)] #[]), (12, .func (.func 17) #[.pointer (some ⟨b9, 0, none⟩)] #[]), (65, .slice (some ⟨nb, no, none⟩) ls.length nc), (66, .int .i64 (ls.length : Int)), (67, .int .i64 (q : Int)), (13, .int .i64 (q : Int)), (72, .slice (some ⟨xb, xo, none⟩) xr.length xc), (73, .int .i64 (xr.length : Int)), (74, .int .i64 (c : Int))] ([blk b9 60 [.slice a24 ((((([] : List Prm) ++ (List.replicate ls.length (1 : Int)).map (setTh (gateP 0))) ++ (List.replicate (ls.length * l0.2.length) (2 : Int)).map (setTh (gateP 0))) ++ [(1 : Int)].map (setTh (gateP 0))).length) c25, .int .i64 ((l0.2.length + 1 : Nat) : Int), .slice ra ((((([] : List Syn) ++ [(⟨-1 - (l0.2.length : Int), st, 1, 1⟩ : Syn)]) ++ rowsTo ls.length l0.2.length (ls.map (·.2)) q) ++ cellsTo ls.length l0.2.length q xr c).length) rc], row a24 c25 62 8 ((((([] : List Prm) ++ (List.replicate ls.length (1 : Int)).map (setTh (gateP 0))) ++ (List.replicate (ls.length * l0.2.length) (2 : Int)).map (setTh (gateP 0))) ++ [(1 : Int)].map (setTh (gateP 0))).length) ((((([] : List Prm) ++ (List.replicate ls.length (1 : Int)).map (setTh (gateP 0))) ++ (List.replicate (ls.length * l0.2.length) (2 : Int)).map (setTh (gateP 0))) ++ [(1 : Int)].map (setTh (gateP 0))).flatMap ePrm), row ra rc 109 4 ((((([] : List Syn) ++ [(⟨-1 - (l0.2.length : Int), st, 1, 1⟩ : Syn)]) ++ rowsTo ls.length l0.2.length (ls.map (·.2)) q) ++ cellsTo ls.length l0.2.length q xr c).length) ((((([] : List Syn) ++ [(⟨-1 - (l0.2.length : Int), st, 1, 1⟩ : Syn)]) ++ rowsTo ls.length l0.2.length (ls.map (·.2)) q) ++ cellsTo ls.length l0.2.length q xr c).flatMap eSyn), blk b1 29 [.slice (some ⟨nb, no, none⟩) ls.length nc, .int .i64 st, .slice aa acc.length ac], blk b2 40 [.slice none 0 0, .int .i64 0, .slice none 0 0]])
      refine Cd.seq ?_
      refine Cd.region ?_
      by_cases hc0 : (c : Int) < (xr.length : Int)
      · refine Ops.q (q_cmp rfl rfl (c_lt hc0)) ?_
        obtain ⟨x28, hx29⟩ : ∃ x, xr[c]? = some x := ⟨_, List.getElem?_eq_getElem (by omega)⟩
        have hkq : l0.2.length * q ≤ 16 * 32 := Nat.mul_le_mul hk1.2 (by omega)
        have hrl := rowsTo_len (s := ls.length) hrow (i := q) (by rw [List.length_map]; omega)
        have hq3 : q * (l0.2.length * 3) ≤ 32 * 48 := Nat.mul_le_mul (by omega) (by omega)
        have hcl := cellsTo_len ls.length l0.2.length q xr c
        refine Ops.to rfl ?_
        refine Cd.seq ?_
        refine Cd.cond_t rfl ?_
        refine Cd.skipTo rfl ?_
        refine Cd.seq ?_
        refine Cd.block ?_
        refine Cd.seq ?_
        refine Cd.region ?_
        refine Ops.q (q_mv rfl) ?_
        refine Ops.q (q_ix (k := c) esz_31 rfl rfl (by omega)) ?_
        refine Ops.q (q_ldR isA_3 rfl (hxe.at0 eInt_len hx29 rfl)) ?_
        refine Ops.q (q_asg rfl) ?_
        refine Ops.q (q_asg rfl) ?_
        refine Ops.to rfl ?_
        refine Cd.seq ?_
        refine Cd.region ?_
        refine Ops.q (q_mv rfl) ?_
        refine Ops.q (q_mv rfl) ?_
        refine Ops.q (q_mv rfl) ?_
        refine Ops.q (q_ar (v := ((l0.2.length * q : Nat) : Int)) rfl rfl ((by rw [a_mul (by rw [← Int.natCast_mul]; omega), ← Int.natCast_mul]))) ?_
        refine Ops.q (q_ar (v := ((ls.length + l0.2.length * q : Nat) : Int)) rfl rfl ((by rw [a_add (by omega)]; rfl))) ?_
        refine Ops.q (q_mv rfl) ?_
        refine Ops.q (q_ar (v := ((ls.length + l0.2.length * q + c : Nat) : Int)) rfl rfl ((by rw [a_add (by omega)]; rfl))) ?_
        refine Ops.q (q_asg rfl) ?_
        refine Ops.to rfl ?_
        refine Cd.seq ?_
        refine Cd.region ?_
        refine Ops.q (q_mv rfl) ?_
        refine Ops.q (q_mv rfl) ?_
        refine Ops.q (q_mv rfl) ?_
        refine Ops.cv (α := Option Addr × Nat) (k := 16) (first := [.pointer (some ⟨b9, 0, none⟩)]) (caps := []) (vs := [.int .i64 (q : Int), .int .i64 ((ls.length + l0.2.length * q + c : Nat) : Int), .int .i64 1, .int .i64 1]) (v := fun _ => .tuple #[]) (A' := fun p => [blk b9 60 [.slice a24 ((((([] : List Prm) ++ (List.replicate ls.length (1 : Int)).map (setTh (gateP 0))) ++ (List.replicate (ls.length * l0.2.length) (2 : Int)).map (setTh (gateP 0))) ++ [(1 : Int)].map (setTh (gateP 0))).length) c25, .int .i64 ((l0.2.length + 1 : Nat) : Int), .slice p.1 (((((([] : List Syn) ++ [(⟨-1 - (l0.2.length : Int), st, 1, 1⟩ : Syn)]) ++ rowsTo ls.length l0.2.length (ls.map (·.2)) q) ++ cellsTo ls.length l0.2.length q xr c) ++ [(⟨(q : Int), ((ls.length + l0.2.length * q + c : Nat) : Int), 1, 1⟩ : Syn)]).length) p.2], row a24 c25 62 8 ((((([] : List Prm) ++ (List.replicate ls.length (1 : Int)).map (setTh (gateP 0))) ++ (List.replicate (ls.length * l0.2.length) (2 : Int)).map (setTh (gateP 0))) ++ [(1 : Int)].map (setTh (gateP 0))).length) ((((([] : List Prm) ++ (List.replicate ls.length (1 : Int)).map (setTh (gateP 0))) ++ (List.replicate (ls.length * l0.2.length) (2 : Int)).map (setTh (gateP 0))) ++ [(1 : Int)].map (setTh (gateP 0))).flatMap ePrm), row p.1 p.2 109 4 (((((([] : List Syn) ++ [(⟨-1 - (l0.2.length : Int), st, 1, 1⟩ : Syn)]) ++ rowsTo ls.length l0.2.length (ls.map (·.2)) q) ++ cellsTo ls.length l0.2.length q xr c) ++ [(⟨(q : Int), ((ls.length + l0.2.length * q + c : Nat) : Int), 1, 1⟩ : Syn)]).length) (((((([] : List Syn) ++ [(⟨-1 - (l0.2.length : Int), st, 1, 1⟩ : Syn)]) ++ rowsTo ls.length l0.2.length (ls.map (·.2)) q) ++ cellsTo ls.length l0.2.length q xr c) ++ [(⟨(q : Int), ((ls.length + l0.2.length * q + c : Nat) : Int), 1, 1⟩ : Syn)]).flatMap eSyn), blk b1 29 [.slice (some ⟨nb, no, none⟩) ls.length nc, .int .i64 st, .slice aa acc.length ac], blk b2 40 [.slice none 0 0, .int .i64 0, .slice none 0 0]]) en_16 rfl rfl (fun w hs => join_c _ _ _ _ _ (((([] : List Prm) ++ (List.replicate ls.length (1 : Int)).map (setTh (gateP 0))) ++ (List.replicate (ls.length * l0.2.length) (2 : Int)).map (setTh (gateP 0))) ++ [(1 : Int)].map (setTh (gateP 0))) _ (((([] : List Syn) ++ [(⟨-1 - (l0.2.length : Int), st, 1, 1⟩ : Syn)]) ++ rowsTo ls.length l0.2.length (ls.map (·.2)) q) ++ cellsTo ls.length l0.2.length q xr c) (q : Int) ((ls.length + l0.2.length * q + c : Nat) : Int) 1 1 _ w _ (by simp only [List.length_append, List.length_cons, List.length_nil, hrl, hcl]; omega) ((((((hs.pull .p4).pull .p4).pull .p4).pull .p4).pull .p4))) ?_
        rintro ⟨a30, c31⟩
        refine Ops.to rfl ?_
        refine Cd.seq ?_
        refine Cd.region ?_
        refine Ops.q (q_mv rfl) ?_
        refine Ops.q (q_mv rfl) ?_
        refine Ops.q (q_mv rfl) ?_
        refine Ops.cv (α := Option Addr × Nat) (k := 17) (first := [.pointer (some ⟨b9, 0, none⟩)]) (caps := []) (vs := [.int .i64 (c : Int), .int .i64 ((ls.length + l0.2.length * q + c : Nat) : Int), .int .i64 1, .int .i64 2]) (v := fun _ => .tuple #[]) (A' := fun p => [blk b9 60 [.slice a24 ((((([] : List Prm) ++ (List.replicate ls.length (1 : Int)).map (setTh (gateP 0))) ++ (List.replicate (ls.length * l0.2.length) (2 : Int)).map (setTh (gateP 0))) ++ [(1 : Int)].map (setTh (gateP 0))).length) c25, .int .i64 ((l0.2.length + 1 : Nat) : Int), .slice p.1 ((((((([] : List Syn) ++ [(⟨-1 - (l0.2.length : Int), st, 1, 1⟩ : Syn)]) ++ rowsTo ls.length l0.2.length (ls.map (·.2)) q) ++ cellsTo ls.length l0.2.length q xr c) ++ [(⟨(q : Int), ((ls.length + l0.2.length * q + c : Nat) : Int), 1, 1⟩ : Syn)]) ++ [(⟨-1 - (c : Int), ((ls.length + l0.2.length * q + c : Nat) : Int), 1, 2⟩ : Syn)]).length) p.2], row a24 c25 62 8 ((((([] : List Prm) ++ (List.replicate ls.length (1 : Int)).map (setTh (gateP 0))) ++ (List.replicate (ls.length * l0.2.length) (2 : Int)).map (setTh (gateP 0))) ++ [(1 : Int)].map (setTh (gateP 0))).length) ((((([] : List Prm) ++ (List.replicate ls.length (1 : Int)).map (setTh (gateP 0))) ++ (List.replicate (ls.length * l0.2.length) (2 : Int)).map (setTh (gateP 0))) ++ [(1 : Int)].map (setTh (gateP 0))).flatMap ePrm), row p.1 p.2 109 4 ((((((([] : List Syn) ++ [(⟨-1 - (l0.2.length : Int), st, 1, 1⟩ : Syn)]) ++ rowsTo ls.length l0.2.length (ls.map (·.2)) q) ++ cellsTo ls.length l0.2.length q xr c) ++ [(⟨(q : Int), ((ls.length + l0.2.length * q + c : Nat) : Int), 1, 1⟩ : Syn)]) ++ [(⟨-1 - (c : Int), ((ls.length + l0.2.length * q + c : Nat) : Int), 1, 2⟩ : Syn)]).length) ((((((([] : List Syn) ++ [(⟨-1 - (l0.2.length : Int), st, 1, 1⟩ : Syn)]) ++ rowsTo ls.length l0.2.length (ls.map (·.2)) q) ++ cellsTo ls.length l0.2.length q xr c) ++ [(⟨(q : Int), ((ls.length + l0.2.length * q + c : Nat) : Int), 1, 1⟩ : Syn)]) ++ [(⟨-1 - (c : Int), ((ls.length + l0.2.length * q + c : Nat) : Int), 1, 2⟩ : Syn)]).flatMap eSyn), blk b1 29 [.slice (some ⟨nb, no, none⟩) ls.length nc, .int .i64 st, .slice aa acc.length ac], blk b2 40 [.slice none 0 0, .int .i64 0, .slice none 0 0]]) en_17 rfl rfl (fun w hs => feed_c _ _ _ _ _ (((([] : List Prm) ++ (List.replicate ls.length (1 : Int)).map (setTh (gateP 0))) ++ (List.replicate (ls.length * l0.2.length) (2 : Int)).map (setTh (gateP 0))) ++ [(1 : Int)].map (setTh (gateP 0))) _ ((((([] : List Syn) ++ [(⟨-1 - (l0.2.length : Int), st, 1, 1⟩ : Syn)]) ++ rowsTo ls.length l0.2.length (ls.map (·.2)) q) ++ cellsTo ls.length l0.2.length q xr c) ++ [(⟨(q : Int), ((ls.length + l0.2.length * q + c : Nat) : Int), 1, 1⟩ : Syn)]) (c : Int) ((ls.length + l0.2.length * q + c : Nat) : Int) 1 2 _ w _ (by simp only [List.length_append, List.length_cons, List.length_nil, hrl, hcl]; omega) (by omega) ((((((hs.pull .p4).pull .p4).pull .p4).pull .p4).pull .p4))) ?_
        rintro ⟨a32, c33⟩
        refine Ops.to rfl ?_
        refine Cd.region ?_
        refine Ops.q (q_mv rfl) ?_
        refine Ops.q (q_mv rfl) ?_
        refine Ops.q (q_mv rfl) ?_
        refine Ops.cv (α := Option Addr × Nat) (k := 16) (first := [.pointer (some ⟨b9, 0, none⟩)]) (caps := []) (vs := [.int .i64 ((ls.length + l0.2.length * q + c : Nat) : Int), .int .i64 x28, .int .i64 1, .int .i64 2]) (v := fun _ => .tuple #[]) (A' := fun p => [blk b9 60 [.slice a24 ((((([] : List Prm) ++ (List.replicate ls.length (1 : Int)).map (setTh (gateP 0))) ++ (List.replicate (ls.length * l0.2.length) (2 : Int)).map (setTh (gateP 0))) ++ [(1 : Int)].map (setTh (gateP 0))).length) c25, .int .i64 ((l0.2.length + 1 : Nat) : Int), .slice p.1 (((((((([] : List Syn) ++ [(⟨-1 - (l0.2.length : Int), st, 1, 1⟩ : Syn)]) ++ rowsTo ls.length l0.2.length (ls.map (·.2)) q) ++ cellsTo ls.length l0.2.length q xr c) ++ [(⟨(q : Int), ((ls.length + l0.2.length * q + c : Nat) : Int), 1, 1⟩ : Syn)]) ++ [(⟨-1 - (c : Int), ((ls.length + l0.2.length * q + c : Nat) : Int), 1, 2⟩ : Syn)]) ++ [(⟨((ls.length + l0.2.length * q + c : Nat) : Int), x28, 1, 2⟩ : Syn)]).length) p.2], row a24 c25 62 8 ((((([] : List Prm) ++ (List.replicate ls.length (1 : Int)).map (setTh (gateP 0))) ++ (List.replicate (ls.length * l0.2.length) (2 : Int)).map (setTh (gateP 0))) ++ [(1 : Int)].map (setTh (gateP 0))).length) ((((([] : List Prm) ++ (List.replicate ls.length (1 : Int)).map (setTh (gateP 0))) ++ (List.replicate (ls.length * l0.2.length) (2 : Int)).map (setTh (gateP 0))) ++ [(1 : Int)].map (setTh (gateP 0))).flatMap ePrm), row p.1 p.2 109 4 (((((((([] : List Syn) ++ [(⟨-1 - (l0.2.length : Int), st, 1, 1⟩ : Syn)]) ++ rowsTo ls.length l0.2.length (ls.map (·.2)) q) ++ cellsTo ls.length l0.2.length q xr c) ++ [(⟨(q : Int), ((ls.length + l0.2.length * q + c : Nat) : Int), 1, 1⟩ : Syn)]) ++ [(⟨-1 - (c : Int), ((ls.length + l0.2.length * q + c : Nat) : Int), 1, 2⟩ : Syn)]) ++ [(⟨((ls.length + l0.2.length * q + c : Nat) : Int), x28, 1, 2⟩ : Syn)]).length) (((((((([] : List Syn) ++ [(⟨-1 - (l0.2.length : Int), st, 1, 1⟩ : Syn)]) ++ rowsTo ls.length l0.2.length (ls.map (·.2)) q) ++ cellsTo ls.length l0.2.length q xr c) ++ [(⟨(q : Int), ((ls.length + l0.2.length * q + c : Nat) : Int), 1, 1⟩ : Syn)]) ++ [(⟨-1 - (c : Int), ((ls.length + l0.2.length * q + c : Nat) : Int), 1, 2⟩ : Syn)]) ++ [(⟨((ls.length + l0.2.length * q + c : Nat) : Int), x28, 1, 2⟩ : Syn)]).flatMap eSyn), blk b1 29 [.slice (some ⟨nb, no, none⟩) ls.length nc, .int .i64 st, .slice aa acc.length ac], blk b2 40 [.slice none 0 0, .int .i64 0, .slice none 0 0]]) en_16 rfl rfl (fun w hs => join_c _ _ _ _ _ (((([] : List Prm) ++ (List.replicate ls.length (1 : Int)).map (setTh (gateP 0))) ++ (List.replicate (ls.length * l0.2.length) (2 : Int)).map (setTh (gateP 0))) ++ [(1 : Int)].map (setTh (gateP 0))) _ (((((([] : List Syn) ++ [(⟨-1 - (l0.2.length : Int), st, 1, 1⟩ : Syn)]) ++ rowsTo ls.length l0.2.length (ls.map (·.2)) q) ++ cellsTo ls.length l0.2.length q xr c) ++ [(⟨(q : Int), ((ls.length + l0.2.length * q + c : Nat) : Int), 1, 1⟩ : Syn)]) ++ [(⟨-1 - (c : Int), ((ls.length + l0.2.length * q + c : Nat) : Int), 1, 2⟩ : Syn)]) ((ls.length + l0.2.length * q + c : Nat) : Int) x28 1 2 _ w _ (by simp only [List.length_append, List.length_cons, List.length_nil, hrl, hcl]; omega) ((((((hs.pull .p4).pull .p4).pull .p4).pull .p4).pull .p4))) ?_
        rintro ⟨a34, c35⟩
        refine Ops.to rfl ?_
        refine Cd.region ?_
        refine Ops.q (q_ar rfl rfl (a_inc (by omega))) ?_
        refine Ops.q (q_mv rfl) ?_
        refine Ops.rnd ((c + 1, a34, c35)) rfl (by dsimp only; exact (by omega)) (by dsimp only; omega) ⟨rfl, rfl, rfl, rfl, rfl, rfl, rfl, rfl, rfl, rfl, rfl, rfl, rfl, rfl, trivial⟩ (fun _ hs => by have h1 := (((((hs.pull .p4).pull .p4).pull .p4).pull .p4).pull .p4); dsimp only; rw [cells_step hx29]; exact h1) 
      · refine Ops.q (q_cmp rfl rfl (c_nlt (by omega))) ?_
        refine Ops.to rfl ?_
        refine Cd.seq ?_
        refine Cd.cond_f rfl ?_
        refine Cd.exitTo rfl ?_
        refine Cd.region ?_
        refine Ops.q (q_ar rfl rfl (a_inc (by omega))) ?_
        refine Ops.q (q_mv rfl) ?_
        refine Ops.rnd ((q + 1, ra, rc)) rfl (by dsimp only; exact (by omega)) (by dsimp only; omega) ⟨rfl, rfl, rfl, rfl, rfl, rfl, rfl, rfl, rfl, rfl, trivial⟩ (fun _ hs => by have h1 := (((((hs.pull .p4).pull .p4).pull .p4).pull .p4).pull .p4); have hce : c = xr.length := (by omega); rw [hce] at h1; dsimp only; rw [rows_step hxq]; exact h1) 
    · refine Ops.q (q_cmp rfl rfl (c_nlt (by omega))) ?_
      have hqe : q = ls.length := by omega
      rw [hqe]
      refine Ops.to rfl ?_
      refine Cd.seq ?_
      refine Cd.cond_f rfl ?_
      refine Cd.exitTo rfl ?_
      refine Cd.seq ?_
      refine Cd.seq ?_
      refine Cd.region ?_
      refine Ops.q (q_fa fo_29_2 rfl) ?_
      refine Ops.q (q_ldB isA_27 rfl .p3 rfl) ?_
      refine Ops.q (q_len esz_27 rfl) ?_
      refine Ops.q (q_mv rfl) ?_
      refine Ops.to rfl ?_
      refine Cd.block ?_
      refine Cd.lp (σ := Nat × Option Addr × Nat) (fun s => s.1 ≤ acc.length) (fun s => [(1, .pointer (some ⟨b1, 0, none⟩)), (2, .pointer (some ⟨b2, 0, none⟩)), (5, .int .i64 (ls.length : Int)), (6, .int .i64 (l0.2.length : Int)), (7, .pointer (some ⟨b9, 0, none⟩)), (11, .func (.func 16) #[.pointer (some ⟨b9, 0, none⟩)] #[]), (12, .func (.func 17) #[.pointer (some ⟨b9, 0, none⟩)] #[]), (101, .slice aa acc.length ac), (102, .int .i64 (acc.length : Int)), (103, .int .i64 (s.1 : Int))]) (fun s => [blk b9 60 [.slice a24 ((((([] : List Prm) ++ (List.replicate ls.length (1 : Int)).map (setTh (gateP 0))) ++ (List.replicate (ls.length * l0.2.length) (2 : Int)).map (setTh (gateP 0))) ++ [(1 : Int)].map (setTh (gateP 0))).length) c25, .int .i64 ((l0.2.length + 1 : Nat) : Int), .slice s.2.1 ((((([] : List Syn) ++ [(⟨-1 - (l0.2.length : Int), st, 1, 1⟩ : Syn)]) ++ rowsTo ls.length l0.2.length (ls.map (·.2)) ls.length) ++ accTo ls.length l0.2.length acc s.1).length) s.2.2], row a24 c25 62 8 ((((([] : List Prm) ++ (List.replicate ls.length (1 : Int)).map (setTh (gateP 0))) ++ (List.replicate (ls.length * l0.2.length) (2 : Int)).map (setTh (gateP 0))) ++ [(1 : Int)].map (setTh (gateP 0))).length) ((((([] : List Prm) ++ (List.replicate ls.length (1 : Int)).map (setTh (gateP 0))) ++ (List.replicate (ls.length * l0.2.length) (2 : Int)).map (setTh (gateP 0))) ++ [(1 : Int)].map (setTh (gateP 0))).flatMap ePrm), row s.2.1 s.2.2 109 4 ((((([] : List Syn) ++ [(⟨-1 - (l0.2.length : Int), st, 1, 1⟩ : Syn)]) ++ rowsTo ls.length l0.2.length (ls.map (·.2)) ls.length) ++ accTo ls.length l0.2.length acc s.1).length) ((((([] : List Syn) ++ [(⟨-1 - (l0.2.length : Int), st, 1, 1⟩ : Syn)]) ++ rowsTo ls.length l0.2.length (ls.map (·.2)) ls.length) ++ accTo ls.length l0.2.length acc s.1).flatMap eSyn), blk b1 29 [.slice (some ⟨nb, no, none⟩) ls.length nc, .int .i64 st, .slice aa acc.length ac], blk b2 40 [.slice none 0 0, .int .i64 0, .slice none 0 0]]) (fun s => acc.length - s.1) (0, qa, qc) (Nat.zero_le _) ⟨rfl, rfl, rfl, rfl, rfl, rfl, rfl, rfl, rfl, rfl, trivial⟩ (fun _ hs => by have h1 := (((((hs.pull .p4).pull .p4).pull .p4).pull .p4).pull .p4); (try dsimp only); rw [show (((([] : List Syn) ++ [(⟨-1 - (l0.2.length : Int), st, 1, 1⟩ : Syn)]) ++ rowsTo ls.length l0.2.length (ls.map (·.2)) ls.length) ++ accTo ls.length l0.2.length acc 0) = ((([] : List Syn) ++ [(⟨-1 - (l0.2.length : Int), st, 1, 1⟩ : Syn)]) ++ rowsTo ls.length l0.2.length (ls.map (·.2)) ls.length) from List.append_nil _]; exact h1) ?_
      rintro ⟨q, ra, rc⟩ hI
      dsimp only at hI
      change Cd _ _ _ _ _ _ _ [(1, .pointer (some ⟨b1, 0, none⟩)), (2, .pointer (some ⟨b2, 0, none⟩)), (5, .int .i64 (ls.length : Int)), (6, .int .i64 (l0.2.length : Int)), (7, .pointer (some ⟨b9, 0, none⟩)), (11, .func (.func 16) #[.pointer (some ⟨b9, 0, none⟩)] #[]), (12, .func (.func 17) #[.pointer (some ⟨b9, 0, none⟩)] #[]), (101, .slice aa acc.length ac), (102, .int .i64 (acc.length : Int)), (103, .int .i64 (q : Int))] ([blk b9 60 [.slice a24 ((((([] : List Prm) ++ (List.replicate ls.length (1 : Int)).map (setTh (gateP 0))) ++ (List.replicate (ls.length * l0.2.length) (2 : Int)).map (setTh (gateP 0))) ++ [(1 : Int)].map (setTh (gateP 0))).length) c25, .int .i64 ((l0.2.length + 1 : Nat) : Int), .slice ra ((((([] : List Syn) ++ [(⟨-1 - (l0.2.length : Int), st, 1, 1⟩ : Syn)]) ++ rowsTo ls.length l0.2.length (ls.map (·.2)) ls.length) ++ accTo ls.length l0.2.length acc q).length) rc], row a24 c25 62 8 ((((([] : List Prm) ++ (List.replicate ls.length (1 : Int)).map (setTh (gateP 0))) ++ (List.replicate (ls.length * l0.2.length) (2 : Int)).map (setTh (gateP 0))) ++ [(1 : Int)].map (setTh (gateP 0))).length) ((((([] : List Prm) ++ (List.replicate ls.length (1 : Int)).map (setTh (gateP 0))) ++ (List.replicate (ls.length * l0.2.length) (2 : Int)).map (setTh (gateP 0))) ++ [(1 : Int)].map (setTh (gateP 0))).flatMap ePrm), row ra rc 109 4 ((((([] : List Syn) ++ [(⟨-1 - (l0.2.length : Int), st, 1, 1⟩ : Syn)]) ++ rowsTo ls.length l0.2.length (ls.map (·.2)) ls.length) ++ accTo ls.length l0.2.length acc q).length) ((((([] : List Syn) ++ [(⟨-1 - (l0.2.length : Int), st, 1, 1⟩ : Syn)]) ++ rowsTo ls.length l0.2.length (ls.map (·.2)) ls.length) ++ accTo ls.length l0.2.length acc q).flatMap eSyn), blk b1 29 [.slice (some ⟨nb, no, none⟩) ls.length nc, .int .i64 st, .slice aa acc.length ac], blk b2 40 [.slice none 0 0, .int .i64 0, .slice none 0 0]])
      refine Cd.seq ?_
      refine Cd.region ?_
      by_cases hq4 : (q : Int) < (acc.length : Int)
      · refine Ops.q (q_cmp rfl rfl (c_lt hq4)) ?_
        obtain ⟨x36, hx37⟩ : ∃ x, acc[q]? = some x := ⟨_, List.getElem?_eq_getElem (by omega)⟩
        obtain ⟨ab38, ao39, rfl⟩ := RoL.pos hA eBool_len hx37
        have hrl := rowsTo_len (s := ls.length) hrow (i := ls.length) (by rw [List.length_map]; omega)
        have hq3 : ls.length * (l0.2.length * 3) ≤ 32 * 48 := Nat.mul_le_mul (by omega) (by omega)
        have hacl := accTo_len ls.length l0.2.length acc q
        refine Ops.to rfl ?_
        refine Cd.seq ?_
        refine Cd.cond_t rfl ?_
        refine Cd.skipTo rfl ?_
        refine Cd.seq ?_
        refine Cd.block ?_
        refine Cd.seq ?_
        refine Cd.region ?_
        refine Ops.q (q_mv rfl) ?_
        refine Ops.q (q_ix (k := q) esz_27 rfl rfl (by omega)) ?_
        refine Ops.q (q_ldR isA_4 rfl (hA.at0 eBool_len hx37 rfl)) ?_
        refine Ops.q (q_asg rfl) ?_
        refine Ops.q (q_asg rfl) ?_
        refine Ops.to rfl ?_
        refine Cd.seq ?_
        refine Cd.region ?_
        refine Ops.q (q_mv rfl) ?_
        refine Ops.to rfl ?_
        refine Cd.cond rfl (fun h40 => ?_) (fun h40 => ?_)
        · refine Cd.region ?_
          refine Ops.q (q_mv rfl) ?_
          refine Ops.q (q_mv rfl) ?_
          refine Ops.q (q_mv rfl) ?_
          refine Ops.q (q_mv rfl) ?_
          refine Ops.q (q_mv rfl) ?_
          refine Ops.q (q_ar (v := ((ls.length * l0.2.length : Nat) : Int)) rfl rfl ((by rw [a_mul (by rw [← Int.natCast_mul]; omega), ← Int.natCast_mul]))) ?_
          refine Ops.q (q_ar (v := ((ls.length + ls.length * l0.2.length : Nat) : Int)) rfl rfl ((by rw [a_add (by omega)]; rfl))) ?_
          refine Ops.cv (α := Option Addr × Nat) (k := 16) (first := [.pointer (some ⟨b9, 0, none⟩)]) (caps := []) (vs := [.int .i64 (q : Int), .int .i64 ((ls.length + ls.length * l0.2.length : Nat) : Int), .int .i64 1, .int .i64 1]) (v := fun _ => .tuple #[]) (A' := fun p => [blk b9 60 [.slice a24 ((((([] : List Prm) ++ (List.replicate ls.length (1 : Int)).map (setTh (gateP 0))) ++ (List.replicate (ls.length * l0.2.length) (2 : Int)).map (setTh (gateP 0))) ++ [(1 : Int)].map (setTh (gateP 0))).length) c25, .int .i64 ((l0.2.length + 1 : Nat) : Int), .slice p.1 (((((([] : List Syn) ++ [(⟨-1 - (l0.2.length : Int), st, 1, 1⟩ : Syn)]) ++ rowsTo ls.length l0.2.length (ls.map (·.2)) ls.length) ++ accTo ls.length l0.2.length acc q) ++ [(⟨(q : Int), ((ls.length + ls.length * l0.2.length : Nat) : Int), 1, 1⟩ : Syn)]).length) p.2], row a24 c25 62 8 ((((([] : List Prm) ++ (List.replicate ls.length (1 : Int)).map (setTh (gateP 0))) ++ (List.replicate (ls.length * l0.2.length) (2 : Int)).map (setTh (gateP 0))) ++ [(1 : Int)].map (setTh (gateP 0))).length) ((((([] : List Prm) ++ (List.replicate ls.length (1 : Int)).map (setTh (gateP 0))) ++ (List.replicate (ls.length * l0.2.length) (2 : Int)).map (setTh (gateP 0))) ++ [(1 : Int)].map (setTh (gateP 0))).flatMap ePrm), row p.1 p.2 109 4 (((((([] : List Syn) ++ [(⟨-1 - (l0.2.length : Int), st, 1, 1⟩ : Syn)]) ++ rowsTo ls.length l0.2.length (ls.map (·.2)) ls.length) ++ accTo ls.length l0.2.length acc q) ++ [(⟨(q : Int), ((ls.length + ls.length * l0.2.length : Nat) : Int), 1, 1⟩ : Syn)]).length) (((((([] : List Syn) ++ [(⟨-1 - (l0.2.length : Int), st, 1, 1⟩ : Syn)]) ++ rowsTo ls.length l0.2.length (ls.map (·.2)) ls.length) ++ accTo ls.length l0.2.length acc q) ++ [(⟨(q : Int), ((ls.length + ls.length * l0.2.length : Nat) : Int), 1, 1⟩ : Syn)]).flatMap eSyn), blk b1 29 [.slice (some ⟨nb, no, none⟩) ls.length nc, .int .i64 st, .slice (some ⟨ab38, ao39, none⟩) acc.length ac], blk b2 40 [.slice none 0 0, .int .i64 0, .slice none 0 0]]) en_16 rfl rfl (fun w hs => join_c _ _ _ _ _ (((([] : List Prm) ++ (List.replicate ls.length (1 : Int)).map (setTh (gateP 0))) ++ (List.replicate (ls.length * l0.2.length) (2 : Int)).map (setTh (gateP 0))) ++ [(1 : Int)].map (setTh (gateP 0))) _ (((([] : List Syn) ++ [(⟨-1 - (l0.2.length : Int), st, 1, 1⟩ : Syn)]) ++ rowsTo ls.length l0.2.length (ls.map (·.2)) ls.length) ++ accTo ls.length l0.2.length acc q) (q : Int) ((ls.length + ls.length * l0.2.length : Nat) : Int) 1 1 _ w _ (by simp only [List.length_append, List.length_cons, List.length_nil, hrl]; omega) ((((((hs.pull .p4).pull .p4).pull .p4).pull .p4).pull .p4))) ?_
          rintro ⟨a41, c42⟩
          refine Ops.to rfl ?_
          refine Cd.region ?_
          refine Ops.q (q_ar rfl rfl (a_inc (by omega))) ?_
          refine Ops.q (q_mv rfl) ?_
          refine Ops.rnd ((q + 1, a41, c42)) rfl (by dsimp only; exact (by omega)) (by dsimp only; omega) ⟨rfl, rfl, rfl, rfl, rfl, rfl, rfl, rfl, rfl, rfl, trivial⟩ (fun _ hs => by have h1 := (((((hs.pull .p4).pull .p4).pull .p4).pull .p4).pull .p4); dsimp only; rw [acc_step hx37, if_pos h40]; exact h1) 
        · refine Cd.skipTo rfl ?_
          refine Cd.region ?_
          refine Ops.q (q_ar rfl rfl (a_inc (by omega))) ?_
          refine Ops.q (q_mv rfl) ?_
          refine Ops.rnd ((q + 1, ra, rc)) rfl (by dsimp only; exact (by omega)) (by dsimp only; omega) ⟨rfl, rfl, rfl, rfl, rfl, rfl, rfl, rfl, rfl, rfl, trivial⟩ (fun _ hs => by have h1 := (((((hs.pull .p4).pull .p4).pull .p4).pull .p4).pull .p4); dsimp only; rw [acc_step hx37, if_neg (by simp [h40]), List.append_nil]; exact h1) 
      · refine Ops.q (q_cmp rfl rfl (c_nlt (by omega))) ?_
        refine Ops.to rfl ?_
        refine Cd.seq ?_
        refine Cd.cond_f rfl ?_
        refine Cd.exitTo rfl ?_
        refine Cd.seq ?_
        refine Cd.region ?_
        refine Ops.q (q_fa fo_60_0 rfl) ?_
        refine Ops.q (q_ldBN [.slice a24 ((((([] : List Prm) ++ (List.replicate ls.length (1 : Int)).map (setTh (gateP 0))) ++ (List.replicate (ls.length * l0.2.length) (2 : Int)).map (setTh (gateP 0))) ++ [(1 : Int)].map (setTh (gateP 0))).length) c25, .int .i64 ((l0.2.length + 1 : Nat) : Int), .slice ra ((((([] : List Syn) ++ [(⟨-1 - (l0.2.length : Int), st, 1, 1⟩ : Syn)]) ++ rowsTo ls.length l0.2.length (ls.map (·.2)) ls.length) ++ accTo ls.length l0.2.length acc q).length) rc] isA_40 sz_40 rfl .here rfl) ?_
        refine Ops.stB [.slice a24 ((((([] : List Prm) ++ (List.replicate ls.length (1 : Int)).map (setTh (gateP 0))) ++ (List.replicate (ls.length * l0.2.length) (2 : Int)).map (setTh (gateP 0))) ++ [(1 : Int)].map (setTh (gateP 0))).length) c25, .int .i64 ((l0.2.length + 1 : Nat) : Int), .slice ra ((((([] : List Syn) ++ [(⟨-1 - (l0.2.length : Int), st, 1, 1⟩ : Syn)]) ++ rowsTo ls.length l0.2.length (ls.map (·.2)) ls.length) ++ accTo ls.length l0.2.length acc q).length) rc] [.slice a24 ((((([] : List Prm) ++ (List.replicate ls.length (1 : Int)).map (setTh (gateP 0))) ++ (List.replicate (ls.length * l0.2.length) (2 : Int)).map (setTh (gateP 0))) ++ [(1 : Int)].map (setTh (gateP 0))).length) c25, .int .i64 ((l0.2.length + 1 : Nat) : Int), .slice ra ((((([] : List Syn) ++ [(⟨-1 - (l0.2.length : Int), st, 1, 1⟩ : Syn)]) ++ rowsTo ls.length l0.2.length (ls.map (·.2)) ls.length) ++ accTo ls.length l0.2.length acc q).length) rc] sz_40 rfl rfl rfl (one rfl) .p4 rfl rfl ?_
        refine Ops.q (q_asg rfl) ?_
        refine Ops.to rfl ?_
        refine Cd.rt (fn := Tryz.f8) [.agg [.slice a24 ((((([] : List Prm) ++ (List.replicate ls.length (1 : Int)).map (setTh (gateP 0))) ++ (List.replicate (ls.length * l0.2.length) (2 : Int)).map (setTh (gateP 0))) ++ [(1 : Int)].map (setTh (gateP 0))).length) c25, .int .i64 ((l0.2.length + 1 : Nat) : Int), .slice ra ((((([] : List Syn) ++ [(⟨-1 - (l0.2.length : Int), st, 1, 1⟩ : Syn)]) ++ rowsTo ls.length l0.2.length (ls.map (·.2)) ls.length) ++ accTo ls.length l0.2.length acc q).length) rc].toArray, .int .i64 0] (by with_reducible repeat (first | exact rq_here | apply rq_then | apply rq_block)) rfl ⟨⟨_, _, rfl, fun _ hs => run_loadN isA_40 sz_40 (fun o u hu => Sat.atB .p4 (by rw [Nat.zero_add]; exact hu) hs)⟩, rfl, trivial⟩ ?_
        intro w' hs'
        have hqe : q = acc.length := by omega
        rw [hqe] at hs'
        have hP : machineP (ls.map (·.2)) st acc = .ok ⟨(((([] : List Prm) ++ (List.replicate ls.length (1 : Int)).map (setTh (gateP 0))) ++ (List.replicate (ls.length * l0.2.length) (2 : Int)).map (setTh (gateP 0))) ++ [(1 : Int)].map (setTh (gateP 0))), ((l0.2.length + 1 : Nat) : Int), (((([] : List Syn) ++ [(⟨-1 - (l0.2.length : Int), st, 1, 1⟩ : Syn)]) ++ rowsTo ls.length l0.2.length (ls.map (·.2)) ls.length) ++ accTo ls.length l0.2.length acc acc.length)⟩ := by unfold machineP; rw [if_neg (by simpa using h3)]; unfold machineN; rw [hhd, List.length_map]; rfl
        rw [hP]
        exact ⟨(a24, c25), (ra, rc), by rw [hqe]; rfl, (((((hs'.pull .p2).pull .p2).pull .p2).drop.pull .p2).drop.pull .p2).drop⟩
  · refine Ops.q (q_cmp rfl rfl (c_ne h3)) ?_
    refine Ops.to rfl ?_
    refine Cd.cond_t rfl ?_
    refine Cd.seq ?_
    refine Cd.region ?_
    refine Ops.q (q_bld [.slice none 0 0, .int .i64 0, .slice none 0 0] pls_40 zc_40 rfl rfl) ?_
    refine Ops.q (q_mv rfl) ?_
    refine Ops.stB [.slice none 0 0, .int .i64 0, .slice none 0 0] [.slice none 0 0, .int .i64 0, .slice none 0 0] sz_40 rfl rfl rfl (one rfl) .here rfl rfl ?_
    refine Ops.q (q_asg rfl) ?_
    refine Ops.to rfl ?_
    refine Cd.rt (fn := Tryz.f8) [.agg [.slice none 0 0, .int .i64 0, .slice none 0 0].toArray, .int .i64 (autoE (ls.map (fun l : NL => l.2)) st acc.length)] (by with_reducible repeat (first | exact rq_here | apply rq_then | apply rq_block)) rfl ⟨⟨_, _, rfl, fun _ hs => run_loadN isA_40 sz_40 (fun o u hu => Sat.atB .here (by rw [Nat.zero_add]; exact hu) hs)⟩, rfl, trivial⟩ ?_
    intro w' hs'
    rw [show machineP (ls.map (·.2)) st acc = .error (autoE (ls.map (·.2)) st acc.length) by unfold machineP; rw [if_pos h3]]
    exact ⟨rfl, hs'.none⟩
end Go.Proofs.YtilcdghliigngaaGreatDoor
namespace Go.Proofs.YtilcdghliigngaaGreatDoor
open Go.RowKit Go.Proofs.YtilcdghliigngaaGreatDoorGl Go.Proofs.YtilcdghliigngaaGreatDoorPm
set_option linter.unusedVariables false
set_option linter.unusedSimpArgs false
def stOk (n : Nat) (e : Evt) : Prop := wi e.id 0 ((n : Int) - 1) ∧ e.tick % 3 = 1
instance (n : Nat) (e : Evt) : Decidable (stOk n e) := inferInstanceAs (Decidable (_ ∧ _))
end Go.Proofs.YtilcdghliigngaaGreatDoor
namespace Go.Proofs.YtilcdghliigngaaGreatDoor
open Go.RowKit Go.Proofs.YtilcdghliigngaaGreatDoorGl Go.Proofs.YtilcdghliigngaaGreatDoorPm
set_option linter.unusedVariables false
set_option linter.unusedSimpArgs false
end Go.Proofs.YtilcdghliigngaaGreatDoor
namespace Go.Proofs.YtilcdghliigngaaGreatDoor
open Go.RowKit Go.Proofs.YtilcdghliigngaaGreatDoorGl Go.Proofs.YtilcdghliigngaaGreatDoorPm
set_option linter.unusedVariables false
set_option linter.unusedSimpArgs false
section
variable {P : Program} {w0 : World} {n : Nat} {D : List Deferred} {L : Env} {A : List Atom}
end
theorem RoL.take {α : Type} {w : World} {a : Option Addr} {enc : α → List Value} {xs : List α} (h : RoL w a enc xs) (k : Nat) : RoL w a enc (xs.take k) := fun j u hu => by
  refine h j u ?_
  rw [← List.take_append_drop k xs, List.flatMap_append, List.getElem?_append_left (List.getElem?_eq_some_iff.1 hu).1]
  exact hu
end Go.Proofs.YtilcdghliigngaaGreatDoor
namespace Go.Proofs.YtilcdghliigngaaGreatDoor
open Go.RowKit Go.Proofs.YtilcdghliigngaaGreatDoorGl Go.Proofs.YtilcdghliigngaaGreatDoorPm
set_option linter.unusedVariables false
set_option linter.unusedSimpArgs false
def insI {α : Type} (xs : List α) (i : Nat) (y : α) : List α := xs.take i ++ [y] ++ xs.drop i
theorem insI_len {α : Type} {xs : List α} {i : Nat} {y : α} (h : i ≤ xs.length) : (insI xs i y).length = xs.length + 1 := by
  simp only [insI, List.length_append, List.length_take, List.length_drop, List.length_cons, List.length_nil]; omega
theorem Ro.mid {w : World} {b o k : Nat} {X Z R : List Value} (h : Ro w (some ⟨b, o, none⟩) (X ++ Z ++ R)) (hk : X.length = k) : Ro w (some ⟨b, o + k, none⟩) Z := fun j u hu => by
  have hj := (List.getElem?_eq_some_iff.1 hu).1
  obtain ⟨b', o', he, hc⟩ := h (k + j) u (by
    rw [List.append_assoc, List.getElem?_append_right (by omega), hk, Nat.add_sub_cancel_left, List.getElem?_append_left hj]; exact hu)
  cases he
  exact ⟨b, o + k, rfl, by rw [Nat.add_assoc]; exact hc⟩
theorem grow3 {X R Y Z : List Value} {o o2 : Nat} (hX : X.length = o) (hY : o + Y.length = o2) (hR : R.length = Y.length + Z.length) :
    ((X ++ R).take o ++ Y ++ (X ++ R).drop (o + Y.length)).take o2 ++ Z ++ ((X ++ R).take o ++ Y ++ (X ++ R).drop (o + Y.length)).drop (o2 + Z.length) = X ++ Y ++ Z := by
  subst hX; subst hY
  have e1 : (X ++ R).take X.length = X := List.take_left
  have e2 : (X ++ R).drop (X.length + Y.length) = R.drop Y.length := by
    rw [← List.drop_drop, List.drop_left]
  rw [e1, e2]
  have e3 : (X ++ Y ++ R.drop Y.length).take (X.length + Y.length) = X ++ Y := by
    rw [← List.length_append]; exact List.take_left
  have e4 : (X ++ Y ++ R.drop Y.length).drop (X.length + Y.length + Z.length) = [] := List.drop_eq_nil_of_le (by simp only [List.length_append, List.length_drop]; omega)
  rw [e3, e4, List.append_nil]
theorem room3 {X Z zs Y : List Value} {o o2 : Nat} (hX : X.length = o) (hY : o + Y.length = o2) (hz : zs.length = Y.length) :
    ((X ++ Z ++ zs).take o2 ++ Z ++ (X ++ Z ++ zs).drop (o2 + Z.length)).take o ++ Y ++ ((X ++ Z ++ zs).take o2 ++ Z ++ (X ++ Z ++ zs).drop (o2 + Z.length)).drop (o + Y.length) = X ++ Y ++ Z := by
  subst hX; subst hY
  have e1 : (X ++ Z ++ zs).drop (X.length + Y.length + Z.length) = [] := List.drop_eq_nil_of_le (by simp only [List.length_append]; omega)
  rw [e1, List.append_nil]
  have hT : ((X ++ Z ++ zs).take (X.length + Y.length)).length = X.length + Y.length := by simp only [List.length_take, List.length_append]; omega
  have e2 : ((X ++ Z ++ zs).take (X.length + Y.length) ++ Z).take X.length = X := by
    rw [List.take_append_of_le_length (by omega), List.take_take, Nat.min_eq_left (by omega), List.append_assoc]; exact List.take_left
  have e3 : ((X ++ Z ++ zs).take (X.length + Y.length) ++ Z).drop (X.length + Y.length) = Z := by
    exact List.drop_left' hT
  rw [e2, e3]
theorem fm_split {α : Type} (f : α → List Value) (xs : List α) (i : Nat) : xs.flatMap f = (xs.take i).flatMap f ++ (xs.drop i).flatMap f := by
  rw [← List.flatMap_append, List.take_append_drop]
theorem insI_fm (xs : List Evt) (i : Nat) (y : Evt) : (insI xs i y).flatMap eEvt = (xs.take i).flatMap eEvt ++ eEvt y ++ (xs.drop i).flatMap eEvt := by
  rw [insI, List.flatMap_append, List.flatMap_append]; simp
theorem tk_len {xs : List Evt} {i : Nat} (h : i ≤ xs.length) : ((xs.take i).flatMap eEvt).length = i * 2 := by
  rw [fm_length eEvt_len, List.length_take, Nat.min_eq_left h]
theorem dr_len {xs : List Evt} {i : Nat} : ((xs.drop i).flatMap eEvt).length = (xs.length - i) * 2 := by
  rw [fm_length eEvt_len, List.length_drop]
theorem ovl_c {w0 w : World} {A R R' : List Atom} {vb rb o cap m lb cb vc vn : Nat} {cs cs' : List Value} (hs : Sat w0 w A) (hp : Pull A (row (some ⟨vb, 0, none⟩) vc 70 2 vn cs) R) (hq : Pull R (row (some ⟨rb, 0, none⟩) cap 70 2 m cs') R') (hc : 0 < cap) (la ca : Nat) :
    (callFunc 50 [.slice (some ⟨vb, 0, none⟩) la ca, .slice (some ⟨rb, o, none⟩) lb cb].toArray).run Tryz.prog w = .ok (.value (.bool false)) w := by
  obtain ⟨h1, h2⟩ := sat_shape hs hp
  obtain ⟨h3, h4⟩ := sat_shape ((hs.pull hp).drop) hq
  have hz : ∀ w, (Go.sizeOf 70).run Tryz.prog w = .ok 2 w := fun w => Go.Proofs.YtilcdghliigngaaGreatDoorGl.run_sizeOf sz_70
  rw [run_callFunc_extern Tryz.func50 (by kernel_rfl) (by kernel_rfl) (by kernel_rfl) (e := Extern.SlicesOverlaps.overlaps #[43, 43] #[4]) (by kernel_rfl),
    show [Value.slice (some ⟨vb, 0, none⟩) la ca, Value.slice (some ⟨rb, o, none⟩) lb cb].toArray = #[.slice (some ⟨vb, 0, none⟩) la ca, .slice (some ⟨rb, o, none⟩) lb cb] from rfl,
    Lib.run_overlaps_apart w 43 4 70 (elT_u el_43) 2 hz ⟨vb, 0, none⟩ ⟨rb, o, none⟩ la ca lb cb (sat_apart hs hp hq) 70 70 (vc * 2) (cap * 2) h1 h3 (by omega) (h2 0) (h2 (vc * 2))]
  rfl
theorem insert_c (a : Option Addr) (cap vb i : Nat) (xs : List Evt) (y : Evt) (w0 w : World) (F : List Atom) (hi : i ≤ xs.length) (hl : xs.length ≤ 1000000) (hs : Sat w0 w (row a cap 70 2 xs.length (xs.flatMap eEvt) :: row (some ⟨vb, 0, none⟩) 1 70 2 1 (eEvt y) :: F)) :
    Calls Tryz.prog 20 [.slice a xs.length cap, .int .i64 (i : Int), .slice (some ⟨vb, 0, none⟩) 1 1].toArray w fun e w' => ∃ p : Option Addr × Nat, e = .returned (.slice p.1 (insI xs i y).length p.2) ∧ Sat w0 w' (row p.1 p.2 70 2 (insI xs i y).length ((insI xs i y).flatMap eEvt) :: F) := by
  refine fstart Tryz.func20 rfl rfl hs ?_
  refine Cd.seq ?_
  refine Cd.region ?_
  refine Ops.q (q_asg rfl) ?_
  refine Ops.to rfl ?_
  refine Cd.seq ?_
  refine Cd.region ?_
  refine Ops.q (q_mv rfl) ?_
  refine Ops.q (q_mv rfl) ?_
  refine Ops.q (q_cut (k := i) el_43 sz_70 rfl rfl (by omega)) ?_
  refine Ops.to rfl ?_
  refine Cd.seq ?_
  refine Cd.region ?_
  refine Ops.q (q_mv rfl) ?_
  refine Ops.q (q_len esz_43 rfl) ?_
  refine Ops.q (q_asg rfl) ?_
  refine Ops.to rfl ?_
  refine Cd.seq ?_
  refine Cd.seq ?_
  refine Cd.region ?_
  refine Ops.q (q_mv rfl) ?_
  refine Ops.q (q_cmp rfl rfl (c_neq (by decide))) ?_
  refine Ops.to rfl ?_
  refine Cd.cond_f rfl ?_
  refine Cd.skipTo rfl ?_
  refine Cd.seq ?_
  refine Cd.region ?_
  refine Ops.q (q_mv rfl) ?_
  refine Ops.q (q_len esz_43 rfl) ?_
  refine Ops.q (q_asg rfl) ?_
  refine Ops.to rfl ?_
  refine Cd.seq ?_
  refine Cd.seq ?_
  refine Cd.region ?_
  refine Ops.q (q_mv rfl) ?_
  refine Ops.q (q_mv rfl) ?_
  by_cases he : (i : Int) = (xs.length : Int)
  · refine Ops.q (q_cmp rfl rfl (c_eq he)) ?_
    refine Ops.to rfl ?_
    refine Cd.cond_t rfl ?_
    refine Cd.seq ?_
    refine Cd.region ?_
    refine Ops.q (q_mv rfl) ?_
    refine Ops.q (q_mv rfl) ?_
    refine Ops.app (news := (eEvt y)) el_43 zsb_70 (by decide) rfl rfl (fun _ hs => hs.ownRo (.there .here)) (fun _ hs => (hs.pull (.there .here)).drop) (fun _ _ => .here) rfl (one rfl) (by omega) (by omega) ?_
    intro a1 c2
    refine Ops.q (q_asg rfl) ?_
    refine Ops.to rfl ?_
    refine Cd.rt (fn := Tryz.f20) [.slice a1 (xs.length + 1) c2] (by with_reducible repeat (first | exact rq_here | apply rq_then | apply rq_block)) rfl ⟨rfl, trivial⟩ ?_
    intro w' hs'
    have hil : i = xs.length := by omega
    refine ⟨(a1, c2), by rw [insI_len hi]; rfl, ?_⟩
    rw [insI_len hi, insI_fm, List.take_of_length_le (show xs.length ≤ i by omega), List.drop_eq_nil_of_le (show xs.length ≤ i by omega), List.flatMap_nil, List.append_nil]
    exact (hs'.pull .here)
  · refine Ops.q (q_cmp rfl rfl (c_neq he)) ?_
    refine Ops.rowpos .here (by omega) ?_
    rintro rb rfl
    refine Ops.rowle .here (fun hle => ?_)
    have htl := tk_len (xs := xs) (i := i) hi
    have hdl := dr_len (xs := xs) (i := i)
    have hll := eEvt_len y
    refine Ops.to rfl ?_
    refine Cd.cond_f rfl ?_
    refine Cd.skipTo rfl ?_
    refine Cd.seq ?_
    refine Cd.seq ?_
    refine Cd.region ?_
    refine Ops.q (q_mv rfl) ?_
    refine Ops.q (q_mv rfl) ?_
    refine Ops.q (q_ar rfl rfl (a_inc (by omega))) ?_
    refine Ops.q (q_mv rfl) ?_
    refine Ops.q (q_cap el_43 rfl) ?_
    by_cases hroom : (cap : Int) < ((xs.length + 1 : Nat) : Int)
    · refine Ops.q (q_cmp rfl rfl (c_gt hroom)) ?_
      refine Ops.to rfl ?_
      refine Cd.cond_t rfl ?_
      refine Cd.seq ?_
      refine Cd.region ?_
      refine Ops.q (q_mv rfl) ?_
      refine Ops.q (q_mv rfl) ?_
      refine Ops.q (q_cutHP (k := i) el_43 sz_70 rfl rfl (by omega)) ?_
      refine Ops.q (q_mv rfl) ?_
      refine Ops.q (q_mv rfl) ?_
      refine Ops.q (q_ar rfl rfl (a_inc (by omega))) ?_
      refine Ops.q (q_mv rfl) ?_
      refine Ops.q (q_ar (v := ((xs.length + 1 - i : Nat) : Int)) rfl rfl ((by rw [a_sub (by omega)]; congr 1; omega))) ?_
      refine Ops.appzQ (m := i) (k := xs.length + 1 - i) (q := xs.length + 1) (olds := ((xs.take i).flatMap eEvt)) el_43 iK_3 zsb_70 (by decide) rfl rfl (by omega) (by omega) (by omega) (fun _ hs => RoL.take (hs.ownRo .here) i) htl (by omega) (by omega) ?_
      intro nb nc hnc
      have hrl : (rep (xs.length + 1 - i) [.int .i64 0, .int .i64 0]).length = (xs.length + 1 - i) * 2 := rep_length _ _
      refine Ops.q (q_asg rfl) ?_
      refine Ops.to rfl ?_
      refine Cd.seq ?_
      refine Cd.region ?_
      refine Ops.q (q_mv rfl) ?_
      refine Ops.q (q_mv rfl) ?_
      refine Ops.q (q_cutP (k := i) el_43 sz_70 rfl rfl (by omega) (by omega)) ?_
      refine Ops.q (q_mv rfl) ?_
      refine Ops.cpy (k := 1) (news := (eEvt y)) (cs' := ((((xs.take i).flatMap eEvt) ++ rep (xs.length + 1 - i) [.int .i64 0, .int .i64 0]).take (0 + i * 2) ++ (eEvt y) ++ (((xs.take i).flatMap eEvt) ++ rep (xs.length + 1 - i) [.int .i64 0, .int .i64 0]).drop (0 + i * 2 + (eEvt y).length))) el_43 sz_70 rfl rfl (by omega) (fun _ hs => hs.ownRo .p2) (rfl) (one rfl) .here (by simp only [List.length_append, List.length_take, List.length_drop, htl, hdl, hll, hrl]; omega) rfl ?_
      refine Ops.to rfl ?_
      refine Cd.seq ?_
      refine Cd.draw rfl (by kernel_rfl) .nil ?_
      intro F3 St4 hP5 hF6 hR7
      refine Dr.q (i := 0) hP5 rfl (by kernel_rfl) (q_mv rfl) ?_
      refine Dr.q (i := 1) hP5 rfl (by kernel_rfl) (q_mv rfl) ?_
      refine Dr.q (i := 2) hP5 rfl (by kernel_rfl) (q_mv rfl) ?_
      refine Dr.q (i := 3) hP5 rfl (by kernel_rfl) (q_ar (v := ((i + 1 : Nat) : Int)) rfl rfl (a_inc (by omega))) ?_
      refine Dr.q (i := 4) hP5 rfl (by kernel_rfl) (q_cutP (k := i + 1) el_43 sz_70 rfl rfl (by omega) (by omega)) ?_
      refine Dr.q (i := 5) hP5 rfl (by kernel_rfl) (q_mv rfl) ?_
      refine Dr.q (i := 6) hP5 rfl (by kernel_rfl) (q_mv rfl) ?_
      refine Dr.q (i := 7) hP5 rfl (by kernel_rfl) (q_cutP (k := i) el_43 sz_70 rfl rfl (by omega) (by omega)) ?_
      refine Dr.e (i := 8) rfl (by kernel_rfl) ?_
      refine Ops.cpy (k := xs.length - i) (news := ((xs.drop i).flatMap eEvt)) (cs' := (((((xs.take i).flatMap eEvt) ++ rep (xs.length + 1 - i) [.int .i64 0, .int .i64 0]).take (0 + i * 2) ++ (eEvt y) ++ (((xs.take i).flatMap eEvt) ++ rep (xs.length + 1 - i) [.int .i64 0, .int .i64 0]).drop (0 + i * 2 + (eEvt y).length)).take (0 + (i + 1) * 2) ++ ((xs.drop i).flatMap eEvt) ++ ((((xs.take i).flatMap eEvt) ++ rep (xs.length + 1 - i) [.int .i64 0, .int .i64 0]).take (0 + i * 2) ++ (eEvt y) ++ (((xs.take i).flatMap eEvt) ++ rep (xs.length + 1 - i) [.int .i64 0, .int .i64 0]).drop (0 + i * 2 + (eEvt y).length)).drop (0 + (i + 1) * 2 + ((xs.drop i).flatMap eEvt).length))) el_43 sz_70 rfl rfl (by omega) (fun _ hs => Ro.mid (X := (xs.take i).flatMap eEvt) (R := []) (by rw [List.append_nil, ← fm_split]; exact hs.ownRo .p2) htl) (hdl) (fm_one eEvt_one _) (.there .here) (by simp only [List.length_append, List.length_take, List.length_drop, htl, hdl, hll, hrl]; omega) rfl ?_
      refine Dr.back (fun _ hs => hF6 .here hs) ?_
      refine Dr.tail 9 (by kernel_rfl) ?_
      refine Ops.sat ?_ (fun _ hs => hR7 .here hs)
      refine Ops.to rfl ?_
      refine Cd.seq ?_
      refine Cd.region ?_
      refine Ops.q (q_mv rfl) ?_
      refine Ops.q (q_asg rfl) ?_
      refine Ops.to rfl ?_
      refine Cd.rt (fn := Tryz.f20) [.slice (some ⟨nb, 0, none⟩) (xs.length + 1) nc] (by with_reducible repeat (first | exact rq_here | apply rq_then | apply rq_block)) rfl ⟨rfl, trivial⟩ ?_
      intro w' hs'
      refine ⟨(some ⟨nb, 0, none⟩, nc), by rw [insI_len hi]; rfl, ?_⟩
      rw [insI_len hi, insI_fm]
      have h9 := (((hs'.pull .here).pull (.there .here)).drop.pull (.there .here)).drop
      rw [grow3 (by rw [htl]; omega) (by rw [hll]; omega) (by rw [hrl, hll, hdl]; omega)] at h9
      exact h9
    · refine Ops.q (q_cmp rfl rfl (c_ngt (by omega))) ?_
      refine Ops.to rfl ?_
      refine Cd.cond_f rfl ?_
      refine Cd.skipTo rfl ?_
      refine Cd.seq ?_
      refine Cd.region ?_
      refine Ops.q (q_mv rfl) ?_
      refine Ops.q (q_mv rfl) ?_
      refine Ops.q (q_mv rfl) ?_
      refine Ops.q (q_ar rfl rfl (a_inc (by omega))) ?_
      refine Ops.q (q_cutHP (k := (xs.length + 1)) el_43 sz_70 rfl rfl (by omega)) ?_
      refine Ops.q (q_asg rfl) ?_
      refine Ops.to rfl ?_
      refine Cd.seq ?_
      refine Cd.seq ?_
      refine Cd.region ?_
      refine Ops.ext (k := 1) .here (by omega) ?_
      intro zs hzs
      rw [fm_split eEvt xs i]
      refine Ops.q (q_mv rfl) ?_
      refine Ops.q (q_mv rfl) ?_
      refine Ops.q (q_mv rfl) ?_
      refine Ops.q (q_mv rfl) ?_
      refine Ops.q (q_ar (v := ((i + 1 : Nat) : Int)) rfl rfl (a_inc (by omega))) ?_
      refine Ops.q (q_cutP (k := i + 1) el_43 sz_70 rfl rfl (by omega) (by omega)) ?_
      refine Ops.xt rfl (fun w hs => ovl_c hs (.there .here) .here (by omega) _ _) ?_
      refine Ops.q (q_not rfl) ?_
      refine Ops.to rfl ?_
      refine Cd.cond_t rfl ?_
      refine Cd.seq ?_
      refine Cd.draw rfl (by kernel_rfl) .nil ?_
      intro F8 St9 hP10 hF11 hR12
      refine Dr.q (i := 0) hP10 rfl (by kernel_rfl) (q_mv rfl) ?_
      refine Dr.q (i := 1) hP10 rfl (by kernel_rfl) (q_mv rfl) ?_
      refine Dr.q (i := 2) hP10 rfl (by kernel_rfl) (q_mv rfl) ?_
      refine Dr.q (i := 3) hP10 rfl (by kernel_rfl) (q_ar (v := ((i + 1 : Nat) : Int)) rfl rfl (a_inc (by omega))) ?_
      refine Dr.q (i := 4) hP10 rfl (by kernel_rfl) (q_cutP (k := i + 1) el_43 sz_70 rfl rfl (by omega) (by omega)) ?_
      refine Dr.q (i := 5) hP10 rfl (by kernel_rfl) (q_mv rfl) ?_
      refine Dr.q (i := 6) hP10 rfl (by kernel_rfl) (q_mv rfl) ?_
      refine Dr.q (i := 7) hP10 rfl (by kernel_rfl) (q_cutP (k := i) el_43 sz_70 rfl rfl (by omega) (by omega)) ?_
      refine Dr.e (i := 8) rfl (by kernel_rfl) ?_
      refine Ops.cpy (k := xs.length - i) (news := ((xs.drop i).flatMap eEvt)) (cs' := (((xs.take i).flatMap eEvt ++ (xs.drop i).flatMap eEvt ++ zs).take (0 + (i + 1) * 2) ++ ((xs.drop i).flatMap eEvt) ++ ((xs.take i).flatMap eEvt ++ (xs.drop i).flatMap eEvt ++ zs).drop (0 + (i + 1) * 2 + ((xs.drop i).flatMap eEvt).length))) el_43 sz_70 rfl rfl (by omega) (fun _ hs => Ro.mid (X := (xs.take i).flatMap eEvt) (R := zs) (hs.ownRo (.there .here)) htl) (hdl) (fm_one eEvt_one _) (.there .here) (by simp only [List.length_append, List.length_take, List.length_drop, htl, hdl, hll, hzs]; omega) rfl ?_
      refine Dr.back (fun _ hs => hF11 .here hs) ?_
      refine Dr.tail 9 (by kernel_rfl) ?_
      refine Ops.sat ?_ (fun _ hs => hR12 .here hs)
      refine Ops.to rfl ?_
      refine Cd.seq ?_
      refine Cd.region ?_
      refine Ops.q (q_mv rfl) ?_
      refine Ops.q (q_mv rfl) ?_
      refine Ops.q (q_cutP (k := i) el_43 sz_70 rfl rfl (by omega) (by omega)) ?_
      refine Ops.q (q_mv rfl) ?_
      refine Ops.cpy (k := 1) (news := (eEvt y)) (cs' := ((((xs.take i).flatMap eEvt ++ (xs.drop i).flatMap eEvt ++ zs).take (0 + (i + 1) * 2) ++ ((xs.drop i).flatMap eEvt) ++ ((xs.take i).flatMap eEvt ++ (xs.drop i).flatMap eEvt ++ zs).drop (0 + (i + 1) * 2 + ((xs.drop i).flatMap eEvt).length)).take (0 + i * 2) ++ (eEvt y) ++ (((xs.take i).flatMap eEvt ++ (xs.drop i).flatMap eEvt ++ zs).take (0 + (i + 1) * 2) ++ ((xs.drop i).flatMap eEvt) ++ ((xs.take i).flatMap eEvt ++ (xs.drop i).flatMap eEvt ++ zs).drop (0 + (i + 1) * 2 + ((xs.drop i).flatMap eEvt).length)).drop (0 + i * 2 + (eEvt y).length))) el_43 sz_70 rfl rfl (by omega) (fun _ hs => hs.ownRo (.there .here)) (rfl) (one rfl) .here (by simp only [List.length_append, List.length_take, List.length_drop, htl, hdl, hll, hzs]; omega) rfl ?_
      refine Ops.to rfl ?_
      refine Cd.seq ?_
      refine Cd.region ?_
      refine Ops.q (q_mv rfl) ?_
      refine Ops.q (q_asg rfl) ?_
      refine Ops.to rfl ?_
      refine Cd.rt (fn := Tryz.f20) [.slice (some ⟨rb, 0, none⟩) (xs.length + 1) cap] (by with_reducible repeat (first | exact rq_here | apply rq_then | apply rq_block)) rfl ⟨rfl, trivial⟩ ?_
      intro w' hs'
      refine ⟨((some ⟨rb, 0, none⟩), cap), by rw [insI_len hi]; rfl, ?_⟩
      rw [insI_len hi, insI_fm]
      have h9 := ((hs'.pull .here).pull (.there .here)).drop
      rw [room3 (by rw [htl]; omega) (by rw [hll]; omega) (by rw [hzs, hll])] at h9
      exact h9
end Go.Proofs.YtilcdghliigngaaGreatDoor
namespace Go.Proofs.YtilcdghliigngaaGreatDoor
open Go.RowKit Go.Proofs.YtilcdghliigngaaGreatDoorGl Go.Proofs.YtilcdghliigngaaGreatDoorPm
set_option linter.unusedVariables false
set_option linter.unusedSimpArgs false
def symE (n : Nat) (x : Int) : Int := if wi x 0 ((n : Int) - 1) then 0 else 4
def evW (ws : List Int) (k : Nat) : Evt := ⟨3 * (k : Int), ws.getD k 0⟩
def evsW (ws : List Int) (k : Nat) : List Evt := (List.range k).map (evW ws)
def wordP (nx : List (List Int)) (st : Int) (al : Nat) (ws : List Int) : Except Int (List Evt) :=
  if autoE nx st al ≠ 0 then .error (autoE nx st al)
  else if 3000 < ws.length then .error 8
  else if firstE (symE (nx.headD []).length) ws ≠ 0 then .error 4
  else .ok (insI (evsW ws ws.length) (min 1 ws.length) ⟨0, ((nx.headD []).length : Int)⟩)
def RetE (r : Except Int (List Evt)) (w : World) (e : Ending) (w' : World) : Prop :=
  match r with
  | .ok xs => ∃ p : Option Addr × Nat, e = .returned (.tuple #[.slice p.1 xs.length p.2, .int .i64 0]) ∧ Sat w w' [row p.1 p.2 70 2 xs.length (xs.flatMap eEvt)]
  | .error c => e = .returned (.tuple #[.slice none 0 0, .int .i64 c]) ∧ Sat w w' []
theorem evsW_step {ws : List Int} {k : Nat} {x : Int} (h : ws[k]? = some x) : evsW ws (k + 1) = evsW ws k ++ [⟨3 * (k : Int), x⟩] := by
  unfold evsW
  rw [rg_app]
  simp only [evW, getD_at h]
theorem evsW_len (ws : List Int) (k : Nat) : (evsW ws k).length = k := rg_len _ _
theorem symE_4 {n : Nat} {x : Int} (h : ¬ wi x 0 ((n : Int) - 1)) : symE n x = 4 := by unfold symE; rw [if_neg h]
theorem symE_0 {n : Nat} {x : Int} (h : wi x 0 ((n : Int) - 1)) : symE n x = 0 := by unfold symE; rw [if_pos h]
theorem insert_n (a : Option Addr) (cap vb i n : Nat) (xs : List Evt) (y : Evt) (hn : xs.length = n) (w0 w : World) (F : List Atom) (hi : i ≤ n) (hl : n ≤ 1000000) (hs : Sat w0 w (row a cap 70 2 n (xs.flatMap eEvt) :: row (some ⟨vb, 0, none⟩) 1 70 2 1 (eEvt y) :: F)) :
    Calls Tryz.prog 20 [.slice a n cap, .int .i64 (i : Int), .slice (some ⟨vb, 0, none⟩) 1 1].toArray w fun e w' => ∃ p : Option Addr × Nat, e = .returned (.slice p.1 (insI xs i y).length p.2) ∧ Sat w0 w' (row p.1 p.2 70 2 (insI xs i y).length ((insI xs i y).flatMap eEvt) :: F) := by
  subst hn; exact insert_c a cap vb i xs y w0 w F hi hl hs
theorem word_c (na : Option Addr) (nc : Nat) (ls : List NL) (st : Int) (aa : Option Addr) (al ac : Nat) (wa : Option Addr) (wc : Nat) (ws : List Int) (w : World) (hL : RoLL w na ls) (hW : RoL w wa eInt ws) : Calls Tryz.prog 9 [.agg [.slice na ls.length nc, .int .i64 st, .slice aa al ac].toArray, .slice wa ws.length wc].toArray w (RetE (wordP (ls.map (·.2)) st al ws) w) := by
  refine fstart Tryz.func9 rfl rfl (Sat.nil w) ?_
  refine Cd.seq ?_
  refine Cd.region ?_
  refine Ops.box [.slice na ls.length nc, .int .i64 st, .slice aa al ac] rfl rfl ?_
  intro b1
  refine Ops.q (q_asg rfl) ?_
  refine Ops.q (q_asg rfl) ?_
  refine Ops.to rfl ?_
  refine Cd.seq ?_
  refine Cd.seq ?_
  refine Cd.region ?_
  refine Ops.q (q_ldBN [.slice na ls.length nc, .int .i64 st, .slice aa al ac] isA_29 sz_29 rfl .here rfl) ?_
  refine Ops.cp en_13 rfl (fun w hs => acheck_c _ _ ls st _ al _ w (hL.later hs.below)) ?_
  refine Ops.q (q_asg rfl) ?_
  refine Ops.to rfl ?_
  refine Cd.seq ?_
  refine Cd.region ?_
  refine Ops.q (q_mv rfl) ?_
  by_cases h2 : autoE (ls.map (fun l : NL => l.2)) st al = 0
  · refine Ops.q (q_cmp rfl rfl (c_nne h2)) ?_
    have hae := h2
    obtain ⟨hw1, hal, hw3, hrow, hin⟩ := autoE_ok h2
    rw [List.length_map] at hw1 hal
    obtain ⟨l0, hl0⟩ : ∃ x, ls[0]? = some x := ⟨_, List.getElem?_eq_getElem (by unfold wi at hw1; omega)⟩
    have hhd : (ls.map (·.2)).headD [] = l0.2 := by cases ls with | nil => simp at hl0 | cons x xs => simp at hl0; subst hl0; rfl
    rw [hhd] at hw3 hrow
    have hs1 : 1 ≤ ls.length ∧ ls.length ≤ 32 := by unfold wi at hw1; omega
    have hk1 : 1 ≤ l0.2.length ∧ l0.2.length ≤ 16 := by unfold wi at hw3; omega
    obtain ⟨nb, no, rfl⟩ := RoL.pos hL.1 eNL_len hl0
    refine Ops.to rfl ?_
    refine Cd.cond_f rfl ?_
    refine Cd.skipTo rfl ?_
    refine Cd.seq ?_
    refine Cd.region ?_
    refine Ops.q (q_fa fo_29_0 rfl) ?_
    refine Ops.q (q_ldB isA_26 rfl .here rfl) ?_
    refine Ops.q (q_ix (k := 0) esz_26 rfl rfl (by omega)) ?_
    refine Ops.q (q_ldR isA_31 rfl (hL.1.at0 eNL_len hl0 rfl)) ?_
    refine Ops.q (q_len esz_31 rfl) ?_
    refine Ops.q (q_asg rfl) ?_
    refine Ops.to rfl ?_
    refine Cd.seq ?_
    refine Cd.seq ?_
    refine Cd.region ?_
    refine Ops.q (q_mv rfl) ?_
    refine Ops.q (q_len esz_31 rfl) ?_
    by_cases h3 : 3000 < (ws.length : Int)
    · refine Ops.q (q_cmp rfl rfl (c_gt h3)) ?_
      refine Ops.to rfl ?_
      refine Cd.cond_t rfl ?_
      refine Cd.seq ?_
      refine Cd.region ?_
      refine Ops.q (q_asg rfl) ?_
      refine Ops.q (q_asg rfl) ?_
      refine Ops.to rfl ?_
      refine Cd.rt (fn := Tryz.f9) [.slice none 0 0, .int .i64 8] (by with_reducible repeat (first | exact rq_here | apply rq_then | apply rq_block)) rfl ⟨rfl, rfl, trivial⟩ ?_
      intro w' hs'
      have hM : wordP (ls.map (·.2)) st al ws = (if 3000 < ws.length then .error 8 else if firstE (symE l0.2.length) ws ≠ 0 then .error 4 else .ok (insI (evsW ws ws.length) (min 1 ws.length) ⟨0, (l0.2.length : Int)⟩)) := by unfold wordP; rw [if_neg (by simpa using hae), hhd]
      rw [hM, if_pos (by omega)]
      exact ⟨rfl, hs'.none⟩
    · refine Ops.q (q_cmp rfl rfl (c_ngt (by omega))) ?_
      refine Ops.to rfl ?_
      refine Cd.cond_f rfl ?_
      refine Cd.skipTo rfl ?_
      refine Cd.seq ?_
      refine Cd.region ?_
      refine Ops.q (q_asg rfl) ?_
      refine Ops.to rfl ?_
      refine Cd.seq ?_
      refine Cd.seq ?_
      refine Cd.region ?_
      refine Ops.q (q_mv rfl) ?_
      refine Ops.q (q_len esz_31 rfl) ?_
      refine Ops.q (q_mv rfl) ?_
      refine Ops.to rfl ?_
      refine Cd.block ?_
      refine Cd.lp (σ := Nat × Option Addr × Nat) (fun s => s.1 ≤ ws.length ∧ firstE (symE l0.2.length) (ws.drop s.1) = firstE (symE l0.2.length) ws) (fun s => [(2, .pointer (some ⟨b1, 0, none⟩)), (7, .int .i64 (l0.2.length : Int)), (8, .slice s.2.1 s.1 s.2.2), (24, .slice wa ws.length wc), (25, .int .i64 (ws.length : Int)), (26, .int .i64 (s.1 : Int))]) (fun s => [blk b1 29 [.slice (some ⟨nb, no, none⟩) ls.length nc, .int .i64 st, .slice aa al ac], row s.2.1 s.2.2 70 2 s.1 ((evsW ws s.1).flatMap eEvt)]) (fun s => ws.length - s.1) (0, none, 0) ⟨Nat.zero_le _, rfl⟩ ⟨rfl, rfl, rfl, rfl, rfl, rfl, trivial⟩ (fun _ hs => by have h1 := ((hs.pull .here)).nilRow 70 2; exact h1.pull (.there .here)) ?_
      rintro ⟨k, pa, pc⟩ hI
      dsimp only at hI
      change Cd _ _ _ _ _ _ _ [(2, .pointer (some ⟨b1, 0, none⟩)), (7, .int .i64 (l0.2.length : Int)), (8, .slice pa k pc), (24, .slice wa ws.length wc), (25, .int .i64 (ws.length : Int)), (26, .int .i64 (k : Int))] ([blk b1 29 [.slice (some ⟨nb, no, none⟩) ls.length nc, .int .i64 st, .slice aa al ac], row pa pc 70 2 k ((evsW ws k).flatMap eEvt)])
      have hI1 := hI.1
      refine Cd.seq ?_
      refine Cd.region ?_
      by_cases hk : (k : Int) < (ws.length : Int)
      · refine Ops.q (q_cmp rfl rfl (c_lt hk)) ?_
        obtain ⟨x4, hx5⟩ : ∃ x, ws[k]? = some x := ⟨_, List.getElem?_eq_getElem (by omega)⟩
        obtain ⟨ab6, ao7, rfl⟩ := RoL.pos hW eInt_len hx5
        refine Ops.to rfl ?_
        refine Cd.seq ?_
        refine Cd.cond_t rfl ?_
        refine Cd.skipTo rfl ?_
        refine Cd.seq ?_
        refine Cd.block ?_
        refine Cd.seq ?_
        refine Cd.region ?_
        refine Ops.q (q_mv rfl) ?_
        refine Ops.q (q_ix (k := k) esz_31 rfl rfl (by omega)) ?_
        refine Ops.q (q_ldR isA_3 rfl (hW.at0 eInt_len hx5 rfl)) ?_
        refine Ops.q (q_asg rfl) ?_
        refine Ops.q (q_asg rfl) ?_
        refine Ops.to rfl ?_
        refine Cd.seq ?_
        refine Cd.seq ?_
        refine Cd.region ?_
        refine Ops.q (q_mv rfl) ?_
        refine Ops.q (q_mv rfl) ?_
        refine Ops.q (q_ar (v := (l0.2.length : Int) - 1) rfl rfl (a_sub (by omega))) ?_
        by_cases h8 : wi x4 0 ((l0.2.length : Int) - 1)
        · refine Ops.cp en_19 rfl (fun w hs => dT (in_c _ _ _ w) h8) ?_
          refine Ops.q (q_not rfl) ?_
          refine Ops.to rfl ?_
          refine Cd.cond_f rfl ?_
          refine Cd.skipTo rfl ?_
          refine Cd.region ?_
          refine Ops.q (q_mv rfl) ?_
          refine Ops.q (q_mv rfl) ?_
          refine Ops.q (q_ar rfl rfl (a_mul (by omega))) ?_
          refine Ops.q (q_mv rfl) ?_
          refine Ops.q (q_bld [.int .i64 (3 * (k : Int)), .int .i64 x4] pls_70 zc_70 rfl rfl) ?_
          refine Ops.lit [.int .i64 (3 * (k : Int)), .int .i64 x4] el_43 zsb_70 rfl rfl ⟨by decide, by decide⟩ rfl ?_
          intro b9
          refine Ops.app (news := [.int .i64 (3 * (k : Int)), .int .i64 x4]) el_43 zsb_70 (by decide) rfl rfl (fun _ hs => hs.ownRo .here) (fun _ hs => (hs.pull .here).drop) (fun _ _ => (.there .here)) rfl (one rfl) (by omega) (by omega) ?_
          intro a10 c11
          refine Ops.q (q_asg rfl) ?_
          refine Ops.to rfl ?_
          refine Cd.region ?_
          refine Ops.q (q_ar rfl rfl (a_inc (by omega))) ?_
          refine Ops.q (q_mv rfl) ?_
          refine Ops.rnd ((k + 1, a10, c11)) rfl (by dsimp only; exact (⟨by omega, by rw [← hI.2]; exact (firstE_step hx5 (symE_0 h8)).symm⟩)) (by dsimp only; omega) ⟨rfl, rfl, rfl, rfl, rfl, rfl, trivial⟩ (fun _ hs => by have h1 := ((hs.pull (.there .here)).pull (.there .here)); (try dsimp only); rw [evsW_step hx5, fm_app]; exact h1) 
        · refine Ops.cp en_19 rfl (fun w hs => dF (in_c _ _ _ w) h8) ?_
          refine Ops.q (q_not rfl) ?_
          refine Ops.to rfl ?_
          refine Cd.cond_t rfl ?_
          refine Cd.seq ?_
          refine Cd.region ?_
          refine Ops.q (q_asg rfl) ?_
          refine Ops.q (q_asg rfl) ?_
          refine Ops.to rfl ?_
          refine Cd.rt (fn := Tryz.f9) [.slice none 0 0, .int .i64 4] (by with_reducible repeat (first | exact rq_here | apply rq_then | apply rq_block)) rfl ⟨rfl, rfl, trivial⟩ ?_
          intro w' hs'
          have hM : wordP (ls.map (·.2)) st al ws = (if 3000 < ws.length then .error 8 else if firstE (symE l0.2.length) ws ≠ 0 then .error 4 else .ok (insI (evsW ws ws.length) (min 1 ws.length) ⟨0, (l0.2.length : Int)⟩)) := by unfold wordP; rw [if_neg (by simpa using hae), hhd]
          have h9 : firstE (symE l0.2.length) ws = 4 := by rw [← hI.2, firstE_stop hx5 (by rw [symE_4 h8]; decide), symE_4 h8]
          rw [hM, if_neg (by omega), h9, if_pos (by decide)]
          exact ⟨rfl, hs'.none⟩
      · refine Ops.q (q_cmp rfl rfl (c_nlt (by omega))) ?_
        refine Ops.to rfl ?_
        refine Cd.seq ?_
        refine Cd.cond_f rfl ?_
        refine Cd.exitTo rfl ?_
        refine Cd.seq ?_
        refine Cd.region ?_
        refine Ops.q (q_mv rfl) ?_
        refine Ops.q (q_mv rfl) ?_
        refine Ops.q (q_len esz_43 rfl) ?_
        refine Ops.q (q_min rfl rfl) ?_
        rw [show min (1 : Int) (k : Int) = ((min 1 k : Nat) : Int) by omega]
        refine Ops.q (q_mv rfl) ?_
        refine Ops.q (q_bld [.int .i64 0, .int .i64 (l0.2.length : Int)] pls_70 zc_70 rfl rfl) ?_
        refine Ops.lit [.int .i64 0, .int .i64 (l0.2.length : Int)] el_43 zsb_70 rfl rfl ⟨by decide, by decide⟩ rfl ?_
        intro b12
        refine Ops.cm (α := Option Addr × Nat) (v := fun p => .slice p.1 (insI (evsW ws k) (min 1 k) (⟨0, (l0.2.length : Int)⟩ : Evt)).length p.2) (A' := fun p => row p.1 p.2 70 2 (insI (evsW ws k) (min 1 k) (⟨0, (l0.2.length : Int)⟩ : Evt)).length ((insI (evsW ws k) (min 1 k) (⟨0, (l0.2.length : Int)⟩ : Evt)).flatMap eEvt) :: [blk b1 29 [.slice (some ⟨nb, no, none⟩) ls.length nc, .int .i64 st, .slice aa al ac]]) en_20 rfl (fun w hs => insert_n pa pc b12 (min 1 k) k (evsW ws k) (⟨0, (l0.2.length : Int)⟩ : Evt) (evsW_len _ _) _ w _ (by omega) (by omega) ((((hs.pull (.there .here)).pull (.there .here)).pull .p2))) ?_
        rintro ⟨ia, ic⟩
        refine Ops.q (q_asg rfl) ?_
        refine Ops.q (q_asg rfl) ?_
        refine Ops.to rfl ?_
        refine Cd.rt (fn := Tryz.f9) [.slice ia ((insI (evsW ws k) (min 1 k) (⟨0, (l0.2.length : Int)⟩ : Evt)).length) ic, .int .i64 0] (by with_reducible repeat (first | exact rq_here | apply rq_then | apply rq_block)) rfl ⟨rfl, rfl, trivial⟩ ?_
        intro w' hs'
        have hM : wordP (ls.map (·.2)) st al ws = (if 3000 < ws.length then .error 8 else if firstE (symE l0.2.length) ws ≠ 0 then .error 4 else .ok (insI (evsW ws ws.length) (min 1 ws.length) ⟨0, (l0.2.length : Int)⟩)) := by unfold wordP; rw [if_neg (by simpa using hae), hhd]
        have h9 : firstE (symE l0.2.length) ws = 0 := by rw [← hI.2, firstE_end (by omega)]
        rw [hM, if_neg (by omega), h9, if_neg (by decide)]
        have hk : k = ws.length := by omega
        subst hk
        exact ⟨(ia, ic), rfl, hs'.only .here⟩
  · refine Ops.q (q_cmp rfl rfl (c_ne h2)) ?_
    refine Ops.to rfl ?_
    refine Cd.cond_t rfl ?_
    refine Cd.seq ?_
    refine Cd.region ?_
    refine Ops.q (q_mv rfl) ?_
    refine Ops.q (q_asg rfl) ?_
    refine Ops.q (q_asg rfl) ?_
    refine Ops.to rfl ?_
    refine Cd.rt (fn := Tryz.f9) [.slice none 0 0, .int .i64 (autoE (ls.map (fun l : NL => l.2)) st al)] (by with_reducible repeat (first | exact rq_here | apply rq_then | apply rq_block)) rfl ⟨rfl, rfl, trivial⟩ ?_
    intro w' hs'
    rw [show wordP (ls.map (·.2)) st al ws = .error (autoE (ls.map (·.2)) st al) by unfold wordP; rw [if_pos h2]]
    exact ⟨rfl, hs'.none⟩
end Go.Proofs.YtilcdghliigngaaGreatDoor
namespace Go.Proofs.YtilcdghliigngaaGreatDoor
open Go.RowKit Go.Proofs.YtilcdghliigngaaGreatDoorGl Go.Proofs.YtilcdghliigngaaGreatDoorPm
set_option linter.unusedVariables false
set_option linter.unusedSimpArgs false
end Go.Proofs.YtilcdghliigngaaGreatDoor
namespace Go.Proofs.YtilcdghliigngaaGreatDoor
open Go.RowKit Go.Proofs.YtilcdghliigngaaGreatDoorGl Go.Proofs.YtilcdghliigngaaGreatDoorPm
set_option linter.unusedVariables false
set_option linter.unusedSimpArgs false
def hN (s k j : Nat) : Int := if s ≤ j ∧ j < s + s * k then 2 else 1
def mNs (s k i : Nat) : List Prm := (List.range i).map fun j => gateP (hN s k j)
theorem mNs_end (s k : Nat) : mNs s k (s + s * k + 1) = ((List.replicate s (1 : Int)).map (setTh (gateP 0)) ++ (List.replicate (s * k) (2 : Int)).map (setTh (gateP 0))) ++ [(1 : Int)].map (setTh (gateP 0)) := by
  unfold mNs
  rw [List.range_succ, List.map_append, List.range_add, List.map_append]
  congr 1
  · congr 1
    · rw [List.map_replicate]
      refine List.eq_replicate_iff.2 ⟨by simp, fun b hb => ?_⟩
      obtain ⟨j, hj, rfl⟩ := List.mem_map.1 hb
      have := List.mem_range.1 hj
      rw [hN, if_neg (by omega)]; rfl
    · rw [List.map_replicate]
      refine List.eq_replicate_iff.2 ⟨by simp, fun b hb => ?_⟩
      obtain ⟨j, hj, rfl⟩ := List.mem_map.1 hb
      obtain ⟨i, hi, rfl⟩ := List.mem_map.1 hj
      have := List.mem_range.1 hi
      rw [hN, if_pos (by omega)]; rfl
  · simp only [List.map_cons, List.map_nil]
    rw [hN, if_neg (by omega)]; rfl
theorem mNs_len (s k i : Nat) : (mNs s k i).length = i := rg_len _ _
end Go.Proofs.YtilcdghliigngaaGreatDoor
namespace Go.Proofs.YtilcdghliigngaaGreatDoor
open Go.RowKit Go.Proofs.YtilcdghliigngaaGreatDoorGl Go.Proofs.YtilcdghliigngaaGreatDoorPm
set_option linter.unusedVariables false
set_option linter.unusedSimpArgs false
def setE (n : Int) (xs : List Int) : Int := if ∀ x ∈ xs, wi x 0 (n - 1) then (if xs.Nodup then 0 else 5) else 4
end Go.Proofs.YtilcdghliigngaaGreatDoor
namespace Go.Proofs.YtilcdghliigngaaGreatDoor
open Go.RowKit Go.Proofs.YtilcdghliigngaaGreatDoorGl Go.Proofs.YtilcdghliigngaaGreatDoorPm
set_option linter.unusedVariables false
set_option linter.unusedSimpArgs false
abbrev CL := NL × Int
def eCl (l : CL) : List Value := [.slice l.1.1.1 l.1.2.length l.1.1.2, .int .i64 l.2]
def RoCL (w : World) (a : Option Addr) (ls : List CL) : Prop := RoL w a eCl ls ∧ ∀ l ∈ ls, RoL w l.1.1.1 eInt l.1.2
theorem RoCL.later {w w' : World} {a : Option Addr} {ls : List CL} (h : RoCL w a ls) (hb : Below w.heap.size w w') : RoCL w' a ls := ⟨RoL.later h.1 hb, fun l hl => RoL.later (h.2 l hl) hb⟩
end Go.Proofs.YtilcdghliigngaaGreatDoor
namespace Go.Proofs.YtilcdghliigngaaGreatDoor
open Go.RowKit Go.Proofs.YtilcdghliigngaaGreatDoorGl Go.Proofs.YtilcdghliigngaaGreatDoorPm
set_option linter.unusedVariables false
set_option linter.unusedSimpArgs false
abbrev PR := NL × NL
def ePr (l : PR) : List Value := [.slice l.1.1.1 l.1.2.length l.1.1.2, .slice l.2.1.1 l.2.2.length l.2.1.2]
def RoPR (w : World) (a : Option Addr) (ls : List PR) : Prop := RoL w a ePr ls ∧ ∀ l ∈ ls, RoL w l.1.1.1 eInt l.1.2 ∧ RoL w l.2.1.1 eInt l.2.2
theorem RoPR.later {w w' : World} {a : Option Addr} {ls : List PR} (h : RoPR w a ls) (hb : Below w.heap.size w w') : RoPR w' a ls := ⟨RoL.later h.1 hb, fun l hl => ⟨RoL.later (h.2 l hl).1 hb, RoL.later (h.2 l hl).2 hb⟩⟩
end Go.Proofs.YtilcdghliigngaaGreatDoor
namespace Go.Proofs.YtilcdghliigngaaGreatDoor
open Go.RowKit Go.Proofs.YtilcdghliigngaaGreatDoorGl Go.Proofs.YtilcdghliigngaaGreatDoorPm
set_option linter.unusedVariables false
set_option linter.unusedSimpArgs false
section
variable (m n : Nat) (S : List (Int × Int)) (c : List Int)
variable {m n S c}
theorem sumI_nonneg {α : Type} {f : α → Int} : ∀ {xs : List α}, (∀ x ∈ xs, 0 ≤ f x) → 0 ≤ sumI f xs
  | [], _ => Int.le_refl _
  | x :: xs, h => by
    have h1 := h x (.head _)
    have h2 := sumI_nonneg (f := f) (xs := xs) (fun y hy => h y (.tail _ hy))
    simp only [sumI]; omega
theorem sumI_pos {α : Type} {f : α → Int} {x : α} : ∀ {xs : List α}, (∀ x ∈ xs, 0 ≤ f x) → x ∈ xs → 1 ≤ f x → 1 ≤ sumI f xs
  | [], _, hx, _ => by cases hx
  | y :: xs, h, hx, h1 => by
    have h2 := sumI_nonneg (f := f) (xs := xs) (fun y hy => h y (.tail _ hy))
    have h3 := h y (.head _)
    simp only [sumI]
    rcases List.mem_cons.1 hx with rfl | hx
    · omega
    · have := sumI_pos (fun y hy => h y (.tail _ hy)) hx h1; omega
end
end Go.Proofs.YtilcdghliigngaaGreatDoor
namespace Go.Proofs.YtilcdghliigngaaGreatDoor
open Go.RowKit Go.Proofs.YtilcdghliigngaaGreatDoorGl Go.Proofs.YtilcdghliigngaaGreatDoorPm
set_option linter.unusedVariables false
set_option linter.unusedSimpArgs false
set_option linter.unusedSectionVars false
theorem stepV_gate {h v x : Int} (hh : 1 ≤ h ∧ h ≤ 1048576) (hx : 0 ≤ x ∧ x ≤ 1048576) : stepV (gateP h) v x = (if h ≤ x then 0 else x, decide (h ≤ x)) := by
  have e : tickV (gateP h) v x = x := by
    simp only [tickV, gateP, leakP, boundP]
    have h0 : v - (v * 256 : Int).tdiv 256 = 0 := by rw [Int.mul_tdiv_cancel v (by decide)]; omega
    simp only [show ¬ ((2 : Int) = 0) by decide, show ¬ ((2 : Int) = 1) by decide, if_false, h0]
    omega
  unfold stepV
  rw [e]
  by_cases c : h ≤ x
  · rw [if_neg (show ¬ x < (gateP h).th by show ¬ x < h; omega), if_neg (show ¬ (gateP h).rk = 1 by show ¬ (0 : Int) = 1; decide)]
    simp [c]; rfl
  · rw [if_pos (show x < (gateP h).th by show x < h; omega)]
    simp [c]
theorem sumI_le {α : Type} {f : α → Int} : ∀ {xs : List α}, (∀ x ∈ xs, f x ≤ 1) → sumI f xs ≤ (xs.length : Int)
  | [], _ => Int.le_refl _
  | x :: xs, h => by
    have h1 := h x (.head _)
    have h2 := sumI_le (f := f) (xs := xs) (fun y hy => h y (.tail _ hy))
    simp only [sumI, List.length_cons]; omega
theorem inX_one {ss : List Syn} {F : Nat → Nat → Bool} {idl : Nat → List Int} {k d : Nat} (hw : ∀ s ∈ ss, s.dst = (d : Int) → s.wt = 1) :
    0 ≤ inX ss F idl k d ∧ inX ss F idl k d ≤ (ss.length : Int) ∧ (1 ≤ inX ss F idl k d ↔ ∃ s ∈ ss, s.dst = (d : Int) ∧ s.dl ≤ (k : Int) ∧ srcF F idl ((k : Int) - s.dl).toNat s.src = true) := by
  have h01 : ∀ s ∈ ss, (0 : Int) ≤ (if s.dst = (d : Int) ∧ s.dl ≤ (k : Int) ∧ srcF F idl ((k : Int) - s.dl).toNat s.src = true then s.wt else 0) ∧ (if s.dst = (d : Int) ∧ s.dl ≤ (k : Int) ∧ srcF F idl ((k : Int) - s.dl).toNat s.src = true then s.wt else 0) ≤ 1 := fun s hs => by
    split
    · rename_i h; have := hw s hs h.1; omega
    · omega
  refine ⟨sumI_nonneg (fun s hs => (h01 s hs).1), sumI_le (fun s hs => (h01 s hs).2), ⟨fun h => ?_, fun ⟨s, hs, hc⟩ => ?_⟩⟩
  · refine Decidable.byContradiction fun hn => ?_
    have : inX ss F idl k d = 0 := sumI_zero (fun s hs => if_neg (fun hc => hn ⟨s, hs, hc⟩))
    omega
  · exact sumI_pos (fun s hs => (h01 s hs).1) hs (by rw [if_pos hc, hw s hs hc.1]; exact Int.le_refl _)
theorem sumI_at {f : Nat → Int} {d m : Nat} (hd : d < m) (h : ∀ j, j < m → j ≠ d → f j = 0) : sumI f (List.range m) = f d := by
  have e : sumI f (List.range m) = sumI (fun j => if j = d then f d else 0) (List.range m) := sumI_congr (fun j hj => by
    by_cases c : j = d
    · rw [if_pos c, c]
    · rw [if_neg c, h j (List.mem_range.1 hj) c])
  rw [e, sumI_range_one (d := d) (fun j hj => if_neg hj), if_pos hd, if_pos rfl]
theorem kq_inj {k q c q0 c0 : Nat} (hc : c < k) (hc0 : c0 < k) (e : k * q + c = k * q0 + c0) : q = q0 ∧ c = c0 := by
  have h1 : (k * q + c) / k = q := by rw [Nat.mul_add_div (by omega), Nat.div_eq_of_lt hc]; omega
  have h2 : (k * q0 + c0) / k = q0 := by rw [Nat.mul_add_div (by omega), Nat.div_eq_of_lt hc0]; omega
  have : q = q0 := by rw [← h1, ← h2, e]
  subst this
  exact ⟨rfl, by omega⟩
theorem kq_lt {s k q c : Nat} (hq : q < s) (hc : c < k) : k * q + c < s * k := by
  have : k * (q + 1) ≤ k * s := Nat.mul_le_mul_left k hq
  rw [Nat.mul_succ, Nat.mul_comm k s] at this; omega
theorem filt_none {N : Nat} {p : Nat → Bool} (h : ∀ d, d < N → ¬ p d = true) : (List.range N).filter p = [] := List.filter_eq_nil_iff.2 (fun d hd => h d (List.mem_range.1 hd))
theorem filt_one {a : Nat} {p : Nat → Bool} : ∀ {N : Nat}, a < N → (∀ d, d < N → (p d = true ↔ d = a)) → (List.range N).filter p = [a]
  | 0, h, _ => by omega
  | N + 1, h, hp => by
    rw [List.range_succ, List.filter_append]
    by_cases e : a = N
    · subst e
      rw [filt_none (fun d hd hc => by have := (hp d (by omega)).1 hc; omega)]
      simp [(hp a (by omega)).2 rfl]
    · rw [filt_one (N := N) (by omega) (fun d hd => hp d (by omega))]
      have : ¬ p N = true := fun hc => e ((hp N (by omega)).1 hc).symm
      simp [this]
def wantA (nx : List (List Int)) (st : Int) (ws : List Int) : Nat → Int
  | 0 => st
  | i + 1 => (nx.getD (wantA nx st ws i).toNat []).getD (ws.getD i 0).toNat 0
structure AutOK (nx : List (List Int)) (st : Int) (acc : List Bool) (ws : List Int) (k : Nat) : Prop where
  hs : 1 ≤ nx.length ∧ nx.length ≤ 32
  hk : 1 ≤ k ∧ k ≤ 16
  row : ∀ r ∈ nx, r.length = k
  val : ∀ r ∈ nx, ∀ x ∈ r, 0 ≤ x ∧ x < (nx.length : Int)
  st : 0 ≤ st ∧ st < (nx.length : Int)
  acc : acc.length = nx.length
  ws : ∀ x ∈ ws, 0 ≤ x ∧ x < (k : Int)
section
variable {nx : List (List Int)} {st : Int} {acc : List Bool} {ws : List Int} {k : Nat}
def autF (nx : List (List Int)) (st : Int) (acc : List Bool) (ws : List Int) (k t d : Nat) : Bool :=
  if d < nx.length then decide (t % 3 = 1 ∧ t / 3 ≤ ws.length ∧ wantA nx st ws (t / 3) = (d : Int))
  else if d < nx.length + nx.length * k then decide (t % 3 = 2 ∧ t / 3 < ws.length ∧ d = nx.length + (k * (wantA nx st ws (t / 3)).toNat + (ws.getD (t / 3) 0).toNat))
  else decide (t % 3 = 2 ∧ t / 3 ≤ ws.length ∧ acc.getD (wantA nx st ws (t / 3)).toNat false = true)
def idlA (ws : List Int) (k t : Nat) : List Int := (if t % 3 = 0 ∧ t / 3 < ws.length then [ws.getD (t / 3) 0] else []) ++ (if t = 0 then [(k : Int)] else [])
def autSs (nx : List (List Int)) (st : Int) (acc : List Bool) (k : Nat) : List Syn := ([⟨-1 - (k : Int), st, 1, 1⟩] ++ rowsTo nx.length k nx nx.length) ++ accTo nx.length k acc acc.length
def autN (nx : List (List Int)) (st : Int) (acc : List Bool) (k : Nat) : NetP := ⟨mNs nx.length k (nx.length + nx.length * k + 1), ((k + 1 : Nat) : Int), autSs nx st acc k⟩
namespace AutOK
variable (h : AutOK nx st acc ws k)
include h
theorem head : (nx.headD []).length = k := by
  cases nx with
  | nil => have := h.hs; simp at this
  | cons r nx => exact h.row r (.head _)
theorem machineN_eq : machineN nx st acc = autN nx st acc k := by
  unfold machineN autN autSs
  rw [h.head, mNs_end]
theorem rowAt {q : Nat} (hq : q < nx.length) : nx.getD q [] ∈ nx := by
  obtain ⟨r, hr⟩ : ∃ r, nx[q]? = some r := ⟨_, List.getElem?_eq_getElem hq⟩
  rw [getD_at hr]; exact List.mem_iff_getElem?.2 ⟨q, hr⟩
theorem rlen (q : Nat) : (nx.getD q []).length ≤ k ∧ (0 < (nx.getD q []).length → q < nx.length) := by
  by_cases hq : q < nx.length
  · exact ⟨Nat.le_of_eq (h.row _ (h.rowAt hq)), fun _ => hq⟩
  · have : nx.getD q [] = [] := by simp [List.getD, List.getElem?_eq_none (show nx.length ≤ q by omega)]
    rw [this]; exact ⟨Nat.zero_le _, fun h => by cases h⟩
theorem rval {q c : Nat} (hq : q < nx.length) (hc : c < k) : 0 ≤ (nx.getD q []).getD c 0 ∧ (nx.getD q []).getD c 0 < (nx.length : Int) := by
  have hm := h.rowAt hq
  have hl := h.row _ hm
  obtain ⟨x, hx⟩ : ∃ x, (nx.getD q [])[c]? = some x := ⟨_, List.getElem?_eq_getElem (by omega)⟩
  rw [getD_at hx]
  exact h.val _ hm x (List.mem_iff_getElem?.2 ⟨c, hx⟩)
theorem wsv (i : Nat) : 0 ≤ ws.getD i 0 ∧ ws.getD i 0 < (k : Int) := by
  by_cases hi : i < ws.length
  · obtain ⟨x, hx⟩ : ∃ x, ws[i]? = some x := ⟨_, List.getElem?_eq_getElem hi⟩
    rw [getD_at hx]; exact h.ws x (List.mem_iff_getElem?.2 ⟨i, hx⟩)
  · have : ws.getD i 0 = 0 := by simp [List.getD, List.getElem?_eq_none (show ws.length ≤ i by omega)]
    rw [this]; have := h.hk; omega
theorem want (i : Nat) : 0 ≤ wantA nx st ws i ∧ wantA nx st ws i < (nx.length : Int) := by
  induction i with
  | zero => exact h.st
  | succ i ih =>
    have := h.wsv i
    exact h.rval (by omega) (by omega)
theorem start_idl {t : Nat} : (k : Int) ∈ idlA ws k t ↔ t = 0 := by
  unfold idlA
  rw [List.mem_append]
  constructor
  · rintro (h1 | h1)
    · split at h1
      · have := List.mem_singleton.1 h1
        have := h.wsv (t / 3); omega
      · cases h1
    · split at h1
      · assumption
      · cases h1
  · intro h1; right; rw [if_pos h1]; exact List.mem_singleton.2 rfl
theorem sym_idl {t c : Nat} (hc : c < k) : (c : Int) ∈ idlA ws k t ↔ t % 3 = 0 ∧ t / 3 < ws.length ∧ (ws.getD (t / 3) 0).toNat = c := by
  have := h.wsv (t / 3)
  unfold idlA
  rw [List.mem_append]
  constructor
  · rintro (h1 | h1)
    · split at h1
      · rename_i h2
        have := List.mem_singleton.1 h1
        exact ⟨h2.1, h2.2, by omega⟩
      · cases h1
    · split at h1
      · have := List.mem_singleton.1 h1; omega
      · cases h1
  · rintro ⟨h1, h2, h3⟩; left; rw [if_pos ⟨h1, h2⟩]; exact List.mem_singleton.2 (by omega)
omit h in
theorem rows_mem {s k i : Nat} {nx : List (List Int)} {y : Syn} : y ∈ rowsTo s k nx i ↔ ∃ q c, q < i ∧ c < (nx.getD q []).length ∧ y ∈ cellS s k q c ((nx.getD q []).getD c 0) := by
  unfold rowsTo cellsTo
  constructor
  · intro hy
    obtain ⟨q, hq, h2⟩ := List.mem_flatMap.1 hy
    obtain ⟨c, hc, h3⟩ := List.mem_flatMap.1 h2
    exact ⟨q, c, List.mem_range.1 hq, List.mem_range.1 hc, h3⟩
  · rintro ⟨q, c, hq, hc, h3⟩
    exact List.mem_flatMap.2 ⟨q, List.mem_range.2 hq, List.mem_flatMap.2 ⟨c, List.mem_range.2 hc, h3⟩⟩
omit h in
theorem acc_mem {s k i : Nat} {y : Syn} : y ∈ accTo s k acc i ↔ ∃ q, q < i ∧ acc.getD q false = true ∧ y = ⟨(q : Int), ((s + s * k : Nat) : Int), 1, 1⟩ := by
  unfold accTo
  constructor
  · intro hy
    obtain ⟨q, hq, h2⟩ := List.mem_flatMap.1 hy
    unfold accS at h2
    split at h2
    · exact ⟨q, List.mem_range.1 hq, by assumption, List.mem_singleton.1 h2⟩
    · cases h2
  · rintro ⟨q, hq, hc, rfl⟩
    refine List.mem_flatMap.2 ⟨q, List.mem_range.2 hq, ?_⟩
    unfold accS; rw [if_pos hc]; exact List.mem_singleton.2 rfl
omit h in
theorem ss_mem {y : Syn} : y ∈ autSs nx st acc k ↔ y = ⟨-1 - (k : Int), st, 1, 1⟩ ∨ (∃ q c, q < nx.length ∧ c < (nx.getD q []).length ∧ (y = ⟨(q : Int), ((nx.length + k * q + c : Nat) : Int), 1, 1⟩ ∨ y = ⟨-1 - (c : Int), ((nx.length + k * q + c : Nat) : Int), 1, 2⟩ ∨ y = ⟨((nx.length + k * q + c : Nat) : Int), (nx.getD q []).getD c 0, 1, 2⟩)) ∨ ∃ q, q < acc.length ∧ acc.getD q false = true ∧ y = ⟨(q : Int), ((nx.length + nx.length * k : Nat) : Int), 1, 1⟩ := by
  unfold autSs
  rw [List.mem_append, List.mem_append, List.mem_singleton, rows_mem, acc_mem, or_assoc]
  simp only [cellS, List.mem_cons, List.not_mem_nil, or_false]
theorem wt1 {y : Syn} (hy : y ∈ autSs nx st acc k) : y.wt = 1 := by
  rcases ss_mem.1 hy with rfl | ⟨q, c, _, _, rfl | rfl | rfl⟩ | ⟨q, _, _, rfl⟩ <;> rfl
theorem ss_len : (autSs nx st acc k).length ≤ 1600 := by
  unfold autSs
  have h1 := h.hs; have h2 := h.hk
  have h3 : nx.length * (k * 3) ≤ 32 * (16 * 3) := Nat.mul_le_mul h1.2 (Nat.mul_le_mul_right 3 h2.2)
  have h4 : (accTo nx.length k acc acc.length).length ≤ acc.length := by
    unfold accTo
    rw [List.length_flatMap]
    have : ∀ n : Nat, ((List.range n).map (fun q => (accS nx.length k acc q).length)).sum ≤ n := fun n => by
      induction n with
      | zero => simp
      | succ n ih =>
        rw [List.range_succ, List.map_append, List.sum_append]
        have : (accS nx.length k acc n).length ≤ 1 := by unfold accS; split <;> simp
        simp only [List.map_cons, List.map_nil, List.sum_cons, List.sum_nil]; omega
    exact this _
  have h5 := h.acc
  rw [List.length_append, List.length_append, rowsTo_len h.row (Nat.le_refl _)]
  simp only [List.length_cons, List.length_nil]
  omega
omit h in
theorem src_in (F : Nat → Nat → Bool) (idl : Nat → List Int) (t c : Nat) : srcF F idl t (-1 - (c : Int)) = decide ((c : Int) ∈ idl t) := by
  unfold srcF
  rw [if_neg (by omega), show -1 - (-1 - (c : Int)) = (c : Int) by omega]
omit h in
theorem src_of (F : Nat → Nat → Bool) (idl : Nat → List Int) (t d : Nat) : srcF F idl t (d : Int) = F t d := by
  unfold srcF
  rw [if_pos (by omega), Int.toNat_natCast]
theorem at_state {t d : Nat} (hd : d < nx.length) : 1 ≤ inX (autSs nx st acc k) (autF nx st acc ws k) (idlA ws k) t d ↔ autF nx st acc ws k t d = true := by
  rw [(inX_one (fun s hs _ => h.wt1 hs)).2.2]
  have eF : autF nx st acc ws k t d = decide (t % 3 = 1 ∧ t / 3 ≤ ws.length ∧ wantA nx st ws (t / 3) = (d : Int)) := by unfold autF; rw [if_pos hd]
  rw [eF, decide_eq_true_eq]
  have hst := h.st
  constructor
  · rintro ⟨y, hy, h1, h2, h3⟩
    rcases ss_mem.1 hy with rfl | ⟨q, c, hq, hc, rfl | rfl | rfl⟩ | ⟨q, _, _, rfl⟩
    · dsimp only at h1 h2 h3
      rw [src_in, decide_eq_true_eq, h.start_idl] at h3
      have e : t = 1 := by omega
      subst e
      exact ⟨rfl, Nat.zero_le _, h1⟩
    · dsimp only at h1; omega
    · dsimp only at h1; omega
    · dsimp only at h1 h2 h3
      have hck : c < k := Nat.lt_of_lt_of_le hc (h.rlen q).1
      have hlt := kq_lt hq hck
      rw [src_of] at h3
      unfold autF at h3
      rw [if_neg (by omega), if_pos (by omega), decide_eq_true_eq] at h3
      have e2 : ((t : Int) - 2).toNat = t - 2 := by omega
      rw [e2] at h3
      obtain ⟨g1, g2, g3⟩ := h3
      have hw := h.wsv ((t - 2) / 3)
      obtain ⟨e3, e4⟩ := kq_inj hck (by omega) (show k * q + c = k * (wantA nx st ws ((t - 2) / 3)).toNat + (ws.getD ((t - 2) / 3) 0).toNat by omega)
      have e5 : t / 3 = (t - 2) / 3 + 1 := by omega
      refine ⟨by omega, by omega, ?_⟩
      rw [e5, wantA, ← e3, ← e4]; exact h1
    · dsimp only at h1; omega
  · rintro ⟨h1, h2, h3⟩
    by_cases h0 : t / 3 = 0
    · have e : t = 1 := by omega
      subst e
      refine ⟨_, ss_mem.2 (.inl rfl), h3, Int.le_refl _, ?_⟩
      dsimp only
      rw [src_in, decide_eq_true_eq, h.start_idl]; rfl
    · obtain ⟨i, hi⟩ : ∃ i, t / 3 = i + 1 := ⟨t / 3 - 1, by omega⟩
      have hw := h.want i; have hv := h.wsv i
      rw [hi, wantA] at h3
      have hq : (wantA nx st ws i).toNat < nx.length := by omega
      have hl := h.row _ (h.rowAt hq)
      have hlt := kq_lt (c := (ws.getD i 0).toNat) (k := k) hq (by omega)
      refine ⟨_, ss_mem.2 (.inr (.inl ⟨(wantA nx st ws i).toNat, (ws.getD i 0).toNat, hq, by omega, .inr (.inr rfl)⟩)), h3, by dsimp only; omega, ?_⟩
      dsimp only
      rw [src_of]
      unfold autF
      rw [if_neg (by omega), if_pos (by omega), decide_eq_true_eq]
      have e2 : ((t : Int) - 2).toNat = t - 2 := by omega
      have e3 : (t - 2) / 3 = i := by omega
      rw [e2, e3]
      exact ⟨by omega, by omega, by omega⟩
theorem at_trans {t q c : Nat} (hq : q < nx.length) (hc : c < k) : inX (autSs nx st acc k) (autF nx st acc ws k) (idlA ws k) t (nx.length + k * q + c) = (if 1 ≤ t ∧ autF nx st acc ws k (t - 1) q = true then 1 else 0) + (if 2 ≤ t ∧ (c : Int) ∈ idlA ws k (t - 2) then 1 else 0) := by
  have hst := h.st
  have hlt := kq_lt hq hc
  unfold inX autSs
  rw [sumI_app, sumI_app]
  have eA : ∀ f : Syn → Int, (∀ y ∈ accTo nx.length k acc acc.length, f y = 0) → sumI f (accTo nx.length k acc acc.length) = 0 := fun f hf => sumI_zero hf
  rw [eA _ (fun y hy => by
    obtain ⟨q', _, _, rfl⟩ := acc_mem.1 hy
    exact if_neg (fun e => by have := e.1; dsimp only at this; omega))]
  have eS : ∀ f : Syn → Int, f ⟨-1 - (k : Int), st, 1, 1⟩ = 0 → sumI f [⟨-1 - (k : Int), st, 1, 1⟩] = 0 := fun f hf => by simp only [sumI, hf]; rfl
  rw [eS _ (if_neg (fun e => by have := e.1; dsimp only at this; omega))]
  unfold rowsTo
  have hne : ∀ q' c', q' < nx.length → c' < k → (q' ≠ q ∨ c' ≠ c) → ∀ y ∈ cellS nx.length k q' c' ((nx.getD q' []).getD c' 0), ¬ y.dst = ((nx.length + k * q + c : Nat) : Int) := fun q' c' h1 h2 h3 y hy e => by
    have hv := h.rval h1 h2
    have : ¬ (k * q' + c' = k * q + c) := fun e' => by have := kq_inj h2 hc e'; omega
    simp only [cellS, List.mem_cons, List.not_mem_nil, or_false] at hy
    rcases hy with rfl | rfl | rfl <;> (dsimp only at e; omega)
  rw [sumI_fm, sumI_at hq]
  · unfold cellsTo
    rw [sumI_fm, sumI_at (d := c) (by rw [h.row _ (h.rowAt hq)]; exact hc)]
    · simp only [cellS, sumI]
      have hv := h.rval hq hc
      rw [if_neg (show ¬ ((nx.getD q []).getD c 0 = ((nx.length + k * q + c : Nat) : Int) ∧ _) from fun e => by have := e.1; omega)]
      simp only [true_and]
      rw [src_in]
      have e1 : ((t : Int) - 1).toNat = t - 1 := by omega
      have e2 : ((t : Int) - 2).toNat = t - 2 := by omega
      rw [src_of, e1, e2]
      have a1 : ((1 : Int) ≤ (t : Int)) ↔ 1 ≤ t := by omega
      have a2 : ((2 : Int) ≤ (t : Int)) ↔ 2 ≤ t := by omega
      simp only [a1, a2, decide_eq_true_eq]
      omega
    · intro c' hc' hn
      exact sumI_zero (fun y hy => if_neg (fun e => hne q c' hq (Nat.lt_of_lt_of_le hc' (h.rlen q).1) (.inr hn) y hy e.1))
  · intro q' hq' hn
    unfold cellsTo
    rw [sumI_fm]
    exact sumI_zero (fun c' hc' => sumI_zero (fun y hy => if_neg (fun e => hne q' c' hq' (Nat.lt_of_lt_of_le (List.mem_range.1 hc') (h.rlen q').1) (.inl hn) y hy e.1)))
theorem at_trans2 {t q c : Nat} (hq : q < nx.length) (hc : c < k) : 2 ≤ inX (autSs nx st acc k) (autF nx st acc ws k) (idlA ws k) t (nx.length + k * q + c) ↔ autF nx st acc ws k t (nx.length + k * q + c) = true := by
  have hlt := kq_lt hq hc
  have eF : autF nx st acc ws k t (nx.length + k * q + c) = decide (t % 3 = 2 ∧ t / 3 < ws.length ∧ nx.length + k * q + c = nx.length + (k * (wantA nx st ws (t / 3)).toNat + (ws.getD (t / 3) 0).toNat)) := by unfold autF; rw [if_neg (by omega), if_pos (by omega)]
  have eQ : autF nx st acc ws k (t - 1) q = decide ((t - 1) % 3 = 1 ∧ (t - 1) / 3 ≤ ws.length ∧ wantA nx st ws ((t - 1) / 3) = (q : Int)) := by unfold autF; rw [if_pos hq]
  rw [h.at_trans hq hc, eF, decide_eq_true_eq]
  simp only [eQ, decide_eq_true_eq, h.sym_idl hc]
  have hw := h.want (t / 3); have hv := h.wsv (t / 3)
  constructor
  · intro h2
    by_cases c1 : 1 ≤ t ∧ (t - 1) % 3 = 1 ∧ (t - 1) / 3 ≤ ws.length ∧ wantA nx st ws ((t - 1) / 3) = (q : Int)
    · by_cases c2 : 2 ≤ t ∧ (t - 2) % 3 = 0 ∧ (t - 2) / 3 < ws.length ∧ (ws.getD ((t - 2) / 3) 0).toNat = c
      · obtain ⟨b1, b2, b3, b4⟩ := c1
        obtain ⟨d1, d2, d3, d4⟩ := c2
        have e1 : (t - 1) / 3 = t / 3 := by omega
        have e2 : (t - 2) / 3 = t / 3 := by omega
        rw [e1] at b4; rw [e2] at d3 d4
        refine ⟨by omega, d3, ?_⟩
        rw [b4, d4, Int.toNat_natCast]; omega
      · rw [if_neg c2] at h2; split at h2 <;> omega
    · rw [if_neg c1] at h2; split at h2 <;> omega
  · rintro ⟨h1, h2, h3⟩
    obtain ⟨e3, e4⟩ := kq_inj hc (by omega) (show k * q + c = k * (wantA nx st ws (t / 3)).toNat + (ws.getD (t / 3) 0).toNat by omega)
    have e1 : (t - 1) / 3 = t / 3 := by omega
    have e2 : (t - 2) / 3 = t / 3 := by omega
    rw [e1, e2, if_pos ⟨by omega, by omega, by omega, by omega⟩, if_pos ⟨by omega, by omega, h2, e4.symm⟩]; decide
theorem at_acc {t : Nat} : 1 ≤ inX (autSs nx st acc k) (autF nx st acc ws k) (idlA ws k) t (nx.length + nx.length * k) ↔ autF nx st acc ws k t (nx.length + nx.length * k) = true := by
  rw [(inX_one (fun s hs _ => h.wt1 hs)).2.2]
  have eF : autF nx st acc ws k t (nx.length + nx.length * k) = decide (t % 3 = 2 ∧ t / 3 ≤ ws.length ∧ acc.getD (wantA nx st ws (t / 3)).toNat false = true) := by unfold autF; rw [if_neg (by omega), if_neg (by omega)]
  have eQ : ∀ q, q < nx.length → autF nx st acc ws k (t - 1) q = decide ((t - 1) % 3 = 1 ∧ (t - 1) / 3 ≤ ws.length ∧ wantA nx st ws ((t - 1) / 3) = (q : Int)) := fun q hq => by unfold autF; rw [if_pos hq]
  have e1 : ((t : Int) - 1).toNat = t - 1 := by omega
  rw [eF, decide_eq_true_eq]
  have hst := h.st; have ha := h.acc
  constructor
  · rintro ⟨y, hy, h1, h2, h3⟩
    rcases ss_mem.1 hy with rfl | ⟨q, c, hq, hc, rfl | rfl | rfl⟩ | ⟨q, hq, hc, rfl⟩
    · dsimp only at h1; omega
    · have := kq_lt hq (Nat.lt_of_lt_of_le hc (h.rlen q).1); dsimp only at h1; omega
    · have := kq_lt hq (Nat.lt_of_lt_of_le hc (h.rlen q).1); dsimp only at h1; omega
    · have := h.rval hq (Nat.lt_of_lt_of_le hc (h.rlen q).1); dsimp only at h1; omega
    · dsimp only at h1 h2 h3
      rw [src_of, e1, eQ q (by omega), decide_eq_true_eq] at h3
      obtain ⟨g1, g2, g3⟩ := h3
      have e2 : (t - 1) / 3 = t / 3 := by omega
      rw [e2] at g2 g3
      exact ⟨by omega, g2, by rw [g3, Int.toNat_natCast]; exact hc⟩
  · rintro ⟨h1, h2, h3⟩
    have hw := h.want (t / 3)
    refine ⟨_, ss_mem.2 (.inr (.inr ⟨(wantA nx st ws (t / 3)).toNat, by omega, h3, rfl⟩)), rfl, by dsimp only; omega, ?_⟩
    dsimp only
    have e2 : (t - 1) / 3 = t / 3 := by omega
    rw [src_of, e1, eQ _ (by omega), decide_eq_true_eq, e2]
    exact ⟨by omega, h2, by omega⟩
end AutOK
end
end Go.Proofs.YtilcdghliigngaaGreatDoor
namespace Go.Proofs.YtilcdghliigngaaGreatDoor
open Go.RowKit Go.Proofs.YtilcdghliigngaaGreatDoorGl Go.Proofs.YtilcdghliigngaaGreatDoorPm
set_option linter.unusedVariables false
set_option linter.unusedSimpArgs false
set_option linter.unusedSectionVars false
section
variable {nx : List (List Int)} {st : Int} {acc : List Bool} {ws : List Int} {k : Nat}
def autV (nx : List (List Int)) (st : Int) (acc : List Bool) (ws : List Int) (k : Nat) : Nat → Nat → Int
  | 0, _ => 0
  | t + 1, d => if hN nx.length k d ≤ inX (autSs nx st acc k) (autF nx st acc ws k) (idlA ws k) t d then 0 else inX (autSs nx st acc k) (autF nx st acc ws k) (idlA ws k) t d
def blkA (nx : List (List Int)) (st : Int) (acc : List Bool) (ws : List Int) (k i : Nat) : List Evt :=
  [⟨((3 * i + 1 : Nat) : Int), wantA nx st ws i⟩] ++ ((if i < ws.length then [⟨((3 * i + 2 : Nat) : Int), ((nx.length + (k * (wantA nx st ws i).toNat + (ws.getD i 0).toNat) : Nat) : Int)⟩] else []) ++ (if acc.getD (wantA nx st ws i).toNat false = true then [⟨((3 * i + 2 : Nat) : Int), ((nx.length + nx.length * k : Nat) : Int)⟩] else []))
def outA (nx : List (List Int)) (st : Int) (acc : List Bool) (ws : List Int) (k : Nat) : List Evt := (List.range (ws.length + 1)).flatMap (blkA nx st acc ws k)
def evA (ws : List Int) (k : Nat) : List Evt := insI (evsW ws ws.length) (min 1 ws.length) ⟨0, (k : Int)⟩
namespace AutOK
variable (h : AutOK nx st acc ws k)
include h
theorem fires {t d : Nat} (hd : d < nx.length + nx.length * k + 1) : autF nx st acc ws k t d = decide (hN nx.length k d ≤ inX (autSs nx st acc k) (autF nx st acc ws k) (idlA ws k) t d) := by
  have key : ∀ {b : Bool} {p : Prop} [Decidable p], (p ↔ b = true) → b = decide p := fun {b p} _ e => by
    by_cases c : p
    · rw [e.1 c, decide_eq_true c]
    · rw [decide_eq_false c]
      cases b with
      | false => rfl
      | true => exact absurd (e.2 rfl) c
  refine key ?_
  unfold hN
  have hk := h.hk
  by_cases c1 : d < nx.length
  · rw [if_neg (by omega)]; exact h.at_state c1
  · by_cases c2 : d < nx.length + nx.length * k
    · rw [if_pos ⟨by omega, c2⟩]
      have hc : (d - nx.length) % k < k := Nat.mod_lt _ (by omega)
      have hq : (d - nx.length) / k < nx.length := (Nat.div_lt_iff_lt_mul (by omega)).2 (by omega)
      have e : d = nx.length + k * ((d - nx.length) / k) + (d - nx.length) % k := by
        have := Nat.div_add_mod (d - nx.length) k; omega
      have := h.at_trans2 (t := t) hq hc
      rw [← e] at this; exact this
    · have e : d = nx.length + nx.length * k := by omega
      rw [if_neg (by omega), e]; exact h.at_acc
theorem net : netCheck (autN nx st acc k) = 0 := by
  have h1 := h.hs; have h2 := h.hk; have h3 := h.ss_len; have h4 := h.st; have h5 := h.acc
  have hsk : nx.length * k ≤ 32 * 16 := Nat.mul_le_mul h1.2 h2.2
  have hl : (mNs nx.length k (nx.length + nx.length * k + 1)).length = nx.length + nx.length * k + 1 := mNs_len _ _ _
  have e1 : firstE nCheck (mNs nx.length k (nx.length + nx.length * k + 1)) = 0 := firstE_all (fun p hp => by
    obtain ⟨j, _, rfl⟩ := List.mem_map.1 hp
    unfold hN; split <;> decide)
  have e2 : firstE (synE (mNs nx.length k (nx.length + nx.length * k + 1)).length ((k + 1 : Nat) : Int)) (autSs nx st acc k) = 0 := firstE_all (fun s hs => by
    unfold synE
    rw [if_pos]
    rw [hl]
    rcases ss_mem.1 hs with rfl | ⟨q, c, hq, hc, rfl | rfl | rfl⟩ | ⟨q, hq, hc, rfl⟩
    · unfold wi; dsimp only; omega
    · have := kq_lt hq (Nat.lt_of_lt_of_le hc (h.rlen q).1); unfold wi; dsimp only; omega
    · have := kq_lt hq (Nat.lt_of_lt_of_le hc (h.rlen q).1); have := (h.rlen q).1; unfold wi; dsimp only; omega
    · have := kq_lt hq (Nat.lt_of_lt_of_le hc (h.rlen q).1); have := h.rval hq (Nat.lt_of_lt_of_le hc (h.rlen q).1); unfold wi; dsimp only; omega
    · unfold wi; dsimp only; omega)
  unfold netCheck autN
  dsimp only
  rw [hl] at e2 ⊢
  rw [if_neg (by omega), if_neg (by omega), if_neg (by omega), if_neg (by rw [e1]; decide)]
  exact e2
theorem idl_ok (t : Nat) : (idlA ws k t).Pairwise (· < ·) ∧ ∀ i ∈ idlA ws k t, wi i 0 (((k + 1 : Nat) : Int) - 1) := by
  have hv := h.wsv (t / 3)
  unfold idlA wi
  by_cases c1 : t % 3 = 0 ∧ t / 3 < ws.length <;> by_cases c2 : t = 0
  · rw [if_pos c1, if_pos c2]
    refine ⟨?_, fun i hi => ?_⟩
    · simp only [List.cons_append, List.nil_append, List.pairwise_cons, List.mem_singleton, List.not_mem_nil, false_implies, implies_true, List.Pairwise.nil, and_true]
      intro a ha; omega
    · simp only [List.cons_append, List.nil_append, List.mem_cons, List.not_mem_nil, or_false] at hi; omega
  · rw [if_pos c1, if_neg c2]
    exact ⟨by simp, fun i hi => by simp only [List.append_nil, List.mem_singleton] at hi; omega⟩
  · rw [if_neg c1, if_pos c2]
    exact ⟨by simp, fun i hi => by simp only [List.nil_append, List.mem_singleton] at hi; omega⟩
  · rw [if_neg c1, if_neg c2]
    exact ⟨by simp, fun i hi => by simp at hi⟩
omit h in
theorem ev_blocks : ∀ m, m + 1 ≤ ws.length → evF (idlA ws k) 0 (3 * (m + 1)) = evW ws 0 :: (⟨0, (k : Int)⟩ :: (List.range m).map (fun j => evW ws (j + 1)))
  | 0, hm => by
    simp only [evF, idlA, evW]
    rw [if_pos (by constructor <;> first | trivial | omega)]
    simp
  | m + 1, hm => by
    have e : 3 * (m + 1 + 1) = 3 * (m + 1) + 1 + 1 + 1 := by omega
    rw [e, evF_app, evF_app, evF_app, ev_blocks m (by omega), List.range_succ, List.map_append]
    have e1 : idlA ws k (0 + 3 * (m + 1)) = [ws.getD (m + 1) 0] := by
      unfold idlA
      have : (0 + 3 * (m + 1)) / 3 = m + 1 := by omega
      rw [this, if_pos ⟨by omega, by omega⟩, if_neg (by omega)]; rfl
    have e2 : idlA ws k (0 + (3 * (m + 1) + 1)) = [] := by
      unfold idlA
      rw [if_neg (fun c => by omega), if_neg (by omega)]; rfl
    have e3 : idlA ws k (0 + (3 * (m + 1) + 1 + 1)) = [] := by
      unfold idlA
      rw [if_neg (fun c => by omega), if_neg (by omega)]; rfl
    rw [e1, e2, e3]
    simp [evW]
omit h in
theorem evF_eq : evF (idlA ws k) 0 (3 * ws.length + 20) = evA ws k := by
  unfold evA
  rcases Nat.eq_zero_or_pos ws.length with h0 | h0
  · rw [h0, show 3 * 0 + 20 = 1 + 19 from rfl, evF_more (T := 1) (fun t ht => by
      unfold idlA
      rw [if_neg (by omega), if_neg (by omega)]; rfl)]
    simp [evF, idlA, h0, insI, evsW]
  · obtain ⟨m, hm⟩ : ∃ m, ws.length = m + 1 := ⟨ws.length - 1, by omega⟩
    rw [evF_more (T := 3 * ws.length) (fun t ht => by
      unfold idlA
      rw [if_neg (by omega), if_neg (by omega)]; rfl)]
    rw [hm, ev_blocks m (by omega), show min 1 (m + 1) = 1 by omega]
    unfold insI evsW
    rw [List.range_succ_eq_map]
    simp [List.map_map, Function.comp_def]
theorem prep (hs8 : nx.length ≤ 8) (hk4 : k ≤ 4) (hl : ws.length ≤ 40) : preparedE ⟨(autN nx st acc k).ns, (autN nx st acc k).inp, (autN nx st acc k).ss⟩ (evA ws k) (3 * (ws.length : Int) + 20) 10000 = 0 := by
  have h1 := h.net
  unfold preparedE
  rw [if_neg (by rw [show netCheck ⟨(autN nx st acc k).ns, (autN nx st acc k).inp, (autN nx st acc k).ss⟩ = 0 from h1]; decide), if_pos (by unfold wi; omega)]
  unfold orderedE
  rw [if_neg (by unfold evA; rw [insI_len (by rw [evsW_len]; omega), evsW_len]; omega), ← evF_eq]
  exact evF_ord (fun k => (h.idl_ok k).1) (fun k i hi => (h.idl_ok k).2 i hi) (3 * ws.length + 20) 0 none (by omega) (fun e h => by cases h)
theorem runO (hs8 : nx.length ≤ 8) (hk4 : k ≤ 4) (hl : ws.length ≤ 40) : runN ⟨(autN nx st acc k).ns, (autN nx st acc k).inp, (autN nx st acc k).ss⟩ (evA ws k) (3 * ws.length + 20) = some (outF (autF nx st acc ws k) (nx.length + nx.length * k + 1) (3 * ws.length + 20)) := by
  have hln : (mNs nx.length k (nx.length + nx.length * k + 1)).length = nx.length + nx.length * k + 1 := mNs_len _ _ _
  have hsk : nx.length * k ≤ 8 * 4 := Nat.mul_le_mul hs8 hk4
  have hX : ∀ t d, 0 ≤ inX (autSs nx st acc k) (autF nx st acc ws k) (idlA ws k) t d ∧ inX (autSs nx st acc k) (autF nx st acc ws k) (idlA ws k) t d ≤ 1600 := fun t d => by
    have h1 := inX_one (ss := autSs nx st acc k) (F := autF nx st acc ws k) (idl := idlA ws k) (k := t) (d := d) (fun s hs _ => h.wt1 hs)
    have h2 := h.ss_len
    exact ⟨h1.1, by have := h1.2.1; omega⟩
  have hT : (3 * ws.length + 20) * (nx.length + nx.length * k + 1) ≤ 140 * 41 := Nat.mul_le_mul (by omega) (by omega)
  have hr := sim_run (ns := mNs nx.length k (nx.length + nx.length * k + 1)) (ip := ((k + 1 : Nat) : Int)) (ss := autSs nx st acc k) (F := autF nx st acc ws k) (idl := idlA ws k) (V := autV nx st acc ws k) (T := 3 * ws.length + 20)
    ⟨fun p hp => by
      obtain ⟨j, _, rfl⟩ := List.mem_map.1 hp
      exact ⟨by unfold hN; split <;> decide, rfl⟩,
     fun s hs => by
      rw [hln]
      have h4 := h.st; have h5 := h.acc
      rcases ss_mem.1 hs with rfl | ⟨q, c, hq, hc, rfl | rfl | rfl⟩ | ⟨q, hq, hc, rfl⟩
      · dsimp only; omega
      · have := kq_lt hq (Nat.lt_of_lt_of_le hc (h.rlen q).1); dsimp only; omega
      · have := kq_lt hq (Nat.lt_of_lt_of_le hc (h.rlen q).1); dsimp only; omega
      · have := kq_lt hq (Nat.lt_of_lt_of_le hc (h.rlen q).1); have := h.rval hq (Nat.lt_of_lt_of_le hc (h.rlen q).1); dsimp only; omega
      · dsimp only; omega,
     fun t => ⟨(h.idl_ok t).1.imp (fun h => by omega), fun i hi => by have := (h.idl_ok t).2 i hi; unfold wi at this; omega⟩⟩
    (fun d => rfl)
    (fun t d _ hd => by have := hX t d; omega)
    (fun t d p _ hp => by
      obtain ⟨hd, e⟩ := List.getElem?_eq_some_iff.1 hp
      rw [hln] at hd
      have : p = gateP (hN nx.length k d) := by rw [← e]; simp [mNs]
      subst this
      have := hX t d
      rw [stepV_gate (by unfold hN; split <;> omega) (by omega), ← h.fires hd]; rfl)
    (by rw [hln]; omega)
  rw [hln, evF_eq] at hr
  exact hr
theorem out_none {t : Nat} (ht : t % 3 = 0 ∨ ws.length < t / 3) : (List.range (nx.length + nx.length * k + 1)).filter (autF nx st acc ws k t) = [] := filt_none (fun d _ hF => by
  unfold autF at hF
  split at hF
  · have := (decide_eq_true_eq.mp hF); omega
  · split at hF
    · have := (decide_eq_true_eq.mp hF); omega
    · have := (decide_eq_true_eq.mp hF); omega)
theorem out_block {i : Nat} (hi : i ≤ ws.length) : ((List.range (nx.length + nx.length * k + 1)).filter (autF nx st acc ws k (3 * i))).map (fun d : Nat => (⟨((3 * i : Nat) : Int), (d : Int)⟩ : Evt)) ++ (((List.range (nx.length + nx.length * k + 1)).filter (autF nx st acc ws k (3 * i + 1))).map (fun d : Nat => (⟨((3 * i + 1 : Nat) : Int), (d : Int)⟩ : Evt)) ++ ((List.range (nx.length + nx.length * k + 1)).filter (autF nx st acc ws k (3 * i + 2))).map (fun d : Nat => (⟨((3 * i + 2 : Nat) : Int), (d : Int)⟩ : Evt))) = blkA nx st acc ws k i := by
  have hw := h.want i; have hv := h.wsv i
  rw [h.out_none (t := 3 * i) (.inl (by omega)), filt_one (a := (wantA nx st ws i).toNat) (by omega) (fun d hd => ?_), List.range_succ, List.filter_append]
  · unfold blkA
    have hlt := kq_lt (s := nx.length) (q := (wantA nx st ws i).toNat) (k := k) (c := (ws.getD i 0).toNat) (by omega) (by omega)
    have e1 : (List.range (nx.length + nx.length * k)).filter (autF nx st acc ws k (3 * i + 2)) = if i < ws.length then [nx.length + (k * (wantA nx st ws i).toNat + (ws.getD i 0).toNat)] else [] := by
      have e5 : (3 * i + 2) / 3 = i := by omega
      by_cases c : i < ws.length
      · rw [if_pos c]
        refine filt_one (by omega) (fun d hd => ?_)
        unfold autF
        rw [e5]
        by_cases c1 : d < nx.length
        · rw [if_pos c1, decide_eq_true_eq]; omega
        · rw [if_neg c1, if_pos hd, decide_eq_true_eq]; omega
      · rw [if_neg c]
        refine filt_none (fun d hd => ?_)
        unfold autF
        rw [e5]
        by_cases c1 : d < nx.length
        · rw [if_pos c1, decide_eq_true_eq]; omega
        · rw [if_neg c1, if_pos hd, decide_eq_true_eq]; omega
    have e2 : autF nx st acc ws k (3 * i + 2) (nx.length + nx.length * k) = acc.getD (wantA nx st ws i).toNat false := by
      unfold autF
      rw [if_neg (by omega), if_neg (by omega), show (3 * i + 2) / 3 = i by omega]
      simp [hi]
    rw [e1, List.map_append, List.map_nil, List.nil_append]
    congr 1
    · simp; omega
    · congr 1
      · split <;> rfl
      · by_cases c : acc.getD (wantA nx st ws i).toNat false = true
        · rw [if_pos c]; simp only [List.filter_cons, e2, c, if_true, List.filter_nil, List.map_cons, List.map_nil]
        · have c' : acc.getD (wantA nx st ws i).toNat false = false := by simpa using c
          rw [if_neg c, List.filter_cons, e2, c', if_neg (by decide)]; rfl
  · unfold autF
    rw [show (3 * i + 1) / 3 = i by omega]
    by_cases c1 : d < nx.length
    · rw [if_pos c1, decide_eq_true_eq]; omega
    · rw [if_neg c1]
      split <;> (rw [decide_eq_true_eq]; omega)
theorem out_blocks : ∀ m, m ≤ ws.length + 1 → outF (autF nx st acc ws k) (nx.length + nx.length * k + 1) (3 * m) = (List.range m).flatMap (blkA nx st acc ws k)
  | 0, _ => rfl
  | m + 1, hm => by
    rw [show 3 * (m + 1) = 3 * m + 1 + 1 + 1 by omega, outF_next, outF_next, outF_next, out_blocks m (by omega), List.range_succ (n := m), List.flatMap_append, List.append_assoc, List.append_assoc]
    congr 1
    rw [h.out_block (i := m) (by omega)]; simp
theorem out_more : ∀ f, outF (autF nx st acc ws k) (nx.length + nx.length * k + 1) (3 * (ws.length + 1) + f) = outA nx st acc ws k
  | 0 => h.out_blocks _ (Nat.le_refl _)
  | f + 1 => by
    rw [← Nat.add_assoc, outF_next, out_more f, h.out_none (.inr (by omega))]; simp
theorem run (hs8 : nx.length ≤ 8) (hk4 : k ≤ 4) (hl : ws.length ≤ 40) : runN ⟨(autN nx st acc k).ns, (autN nx st acc k).inp, (autN nx st acc k).ss⟩ (evA ws k) (3 * ws.length + 20) = some (outA nx st acc ws k) := by
  rw [h.runO hs8 hk4 hl, show 3 * ws.length + 20 = 3 * (ws.length + 1) + 17 by omega, h.out_more]
end AutOK
end
end Go.Proofs.YtilcdghliigngaaGreatDoor
namespace Go.Proofs.YtilcdghliigngaaGreatDoor
open Go.RowKit Go.Proofs.YtilcdghliigngaaGreatDoorGl Go.Proofs.YtilcdghliigngaaGreatDoorPm
set_option linter.unusedVariables false
set_option linter.unusedSimpArgs false
set_option linter.unusedSectionVars false
section
variable {nx : List (List Int)} {st : Int} {acc : List Bool} {ws : List Int} {k : Nat}
def wN (nx : List (List Int)) (st : Int) (ws : List Int) (i : Nat) : Nat := (wantA nx st ws i).toNat
namespace AutOK
variable (h : AutOK nx st acc ws k)
include h
theorem wN_eq (i : Nat) : ((wN nx st ws i : Nat) : Int) = wantA nx st ws i := by have := h.want i; unfold wN; omega
theorem wN_lt (i : Nat) : wN nx st ws i < nx.length := by have := h.want i; unfold wN; omega
theorem wN_step {i u : Nat} {r : List Int} (hr : nx[wN nx st ws i]? = some r) (hw : ws[i]? = some ((u : Nat) : Int)) : r[u]? = some ((wN nx st ws (i + 1) : Nat) : Int) := by
  have hu : (u : Int) < k := (h.ws _ (List.mem_iff_getElem?.2 ⟨i, hw⟩)).2
  have hl := h.row r (List.mem_iff_getElem?.2 ⟨_, hr⟩)
  obtain ⟨y, hy⟩ : ∃ y, r[u]? = some y := ⟨_, List.getElem?_eq_getElem (by omega)⟩
  have e : wantA nx st ws (i + 1) = y := by
    rw [wantA]
    have e1 : nx.getD (wantA nx st ws i).toNat [] = r := getD_at hr
    rw [e1, getD_at hw, Int.toNat_natCast, getD_at hy]
  rw [h.wN_eq, e, hy]
theorem autoE0 : autoE nx st acc.length = 0 := by
  have h1 := h.hs; have h2 := h.hk; have h3 := h.head
  unfold autoE
  rw [if_pos (by unfold wi; omega), if_pos h.acc, h3, if_pos (by unfold wi; omega), if_neg (fun ⟨r, hr, hn⟩ => hn (h.row r hr))]
  refine firstE_all (fun x hx => ?_)
  unfold stE
  rw [if_pos]
  rcases List.mem_append.1 hx with hx | hx
  · obtain ⟨r, hr, hx⟩ := List.mem_flatten.1 hx
    have := h.val r hr x hx; unfold wi; omega
  · obtain rfl := List.mem_singleton.1 hx
    have := h.st; unfold wi; omega
theorem machine_ok : machineP nx st acc = .ok (autN nx st acc k) := by
  unfold machineP
  rw [if_neg (by rw [h.autoE0]; decide), h.machineN_eq]
theorem word_ok (hl : ws.length ≤ 40) : wordP nx st acc.length ws = .ok (evA ws k) := by
  unfold wordP
  rw [if_neg (by rw [h.autoE0]; decide), if_neg (by omega), h.head, if_neg]
  · rfl
  · rw [firstE_all (fun x hx => symE_0 (by have := h.ws x hx; unfold wi; omega))]; decide
theorem out_len : (outA nx st acc ws k).length ≤ 3 * (ws.length + 1) := by
  unfold outA
  have : ∀ m : Nat, ((List.range m).flatMap (blkA nx st acc ws k)).length ≤ 3 * m := fun m => by
    induction m with
    | zero => simp
    | succ m ih =>
      rw [List.range_succ, List.flatMap_append, List.length_append]
      have : ([m].flatMap (blkA nx st acc ws k)).length ≤ 3 := by
        rw [List.flatMap_cons, List.flatMap_nil, List.append_nil]
        unfold blkA; split <;> split <;> simp
      omega
  exact this _
end AutOK
end
end Go.Proofs.YtilcdghliigngaaGreatDoor
namespace Go.Proofs.YtilcdghliigngaaGreatDoor
open Go.RowKit Go.Proofs.YtilcdghliigngaaGreatDoorGl Go.Proofs.YtilcdghliigngaaGreatDoorPm
set_option linter.unusedVariables false
set_option linter.unusedSimpArgs false
end Go.Proofs.YtilcdghliigngaaGreatDoor
namespace Go.Proofs.YtilcdghliigngaaGreatDoor
open Go.RowKit Go.Proofs.YtilcdghliigngaaGreatDoorGl Go.Proofs.YtilcdghliigngaaGreatDoorPm
set_option linter.unusedVariables false
set_option linter.unusedSimpArgs false
end Go.Proofs.YtilcdghliigngaaGreatDoor
namespace Go.Proofs.YtilcdghliigngaaGreatDoor
open Go.RowKit Go.Proofs.YtilcdghliigngaaGreatDoorGl Go.Proofs.YtilcdghliigngaaGreatDoorPm
set_option linter.unusedVariables false
set_option linter.unusedSimpArgs false
end Go.Proofs.YtilcdghliigngaaGreatDoor
namespace Go.Proofs.YtilcdghliigngaaGreatDoor
open Go.RowKit Go.Proofs.YtilcdghliigngaaGreatDoorGl Go.Proofs.YtilcdghliigngaaGreatDoorPm
set_option linter.unusedVariables false
set_option linter.unusedSimpArgs false
end Go.Proofs.YtilcdghliigngaaGreatDoor
namespace Go.Proofs.YtilcdghliigngaaGreatDoor
open Go.RowKit Go.Proofs.YtilcdghliigngaaGreatDoorGl Go.Proofs.YtilcdghliigngaaGreatDoorPm
set_option linter.unusedVariables false
set_option linter.unusedSimpArgs false
end Go.Proofs.YtilcdghliigngaaGreatDoor
namespace Go.Proofs.YtilcdghliigngaaGreatDoor
open Go.RowKit Go.Proofs.YtilcdghliigngaaGreatDoorGl Go.Proofs.YtilcdghliigngaaGreatDoorPm
set_option linter.unusedVariables false
set_option linter.unusedSimpArgs false
def LstO (m : Nat) (l : List Int) : Prop := (∀ i ∈ l, 0 ≤ i ∧ i < (m : Int)) ∧ l.Pairwise (· < ·) ∧ l.length ≤ m
theorem LstO.set {m : Nat} {l : List Int} (h : LstO m l) : setE (m : Int) l = 0 := by
  unfold setE
  rw [if_pos (fun x hx => by have := h.1 x hx; unfold wi; omega), if_pos (show l.Nodup from h.2.1.imp (fun h => by omega))]
theorem run_some_n (na : Option Addr) (nc : Nat) (sa : Option Addr) (sc : Nat) (ns : List Prm) (ip : Int) (ss : List Syn) (ea : Option Addr) (ec : Nat) (evs : List Evt) (n : Nat) (hn : evs.length = n) (t : Int) (w : World) (hN : RoL w na ePrm ns) (hS : RoL w sa eSyn ss) (hE : RoL w ea eEvt evs) (hec : n ≤ ec) (out : List Evt) (hp : preparedE ⟨ns, ip, ss⟩ evs t 10000 = 0) (hr : runN ⟨ns, ip, ss⟩ evs t.toNat = some out) : Calls Tryz.prog 93 [.agg [.slice na ns.length nc, .int .i64 ip, .slice sa ss.length sc].toArray, .slice ea n ec, .int .i64 t].toArray w fun e w' => ∃ p : Option Addr × Nat, e = .returned (.tuple [.slice p.1 out.length p.2, .int .i64 0].toArray) ∧ Sat w w' [row p.1 p.2 70 2 out.length (out.flatMap eEvt)] := by
  subst hn; exact run_some na nc sa sc ns ip ss ea ec evs t w hN hS hE hec out hp hr
end Go.Proofs.YtilcdghliigngaaGreatDoor
namespace Go.Proofs.YtilcdghliigngaaGreatDoor
open Go.RowKit Go.Proofs.YtilcdghliigngaaGreatDoorGl Go.Proofs.YtilcdghliigngaaGreatDoorPm
set_option linter.unusedVariables false
set_option linter.unusedSimpArgs false
section
variable {n : Nat} {tk : Nat → Nat}
end
end Go.Proofs.YtilcdghliigngaaGreatDoor
namespace Go.Proofs.YtilcdghliigngaaGreatDoor
open Go.RowKit Go.Proofs.YtilcdghliigngaaGreatDoorGl Go.Proofs.YtilcdghliigngaaGreatDoorPm
set_option linter.unusedVariables false
set_option linter.unusedSimpArgs false
end Go.Proofs.YtilcdghliigngaaGreatDoor
namespace Go.Proofs.YtilcdghliigngaaGreatDoor
open Go.RowKit Go.Proofs.YtilcdghliigngaaGreatDoorGl Go.Proofs.YtilcdghliigngaaGreatDoorPm
set_option linter.unusedVariables false
set_option linter.unusedSimpArgs false
end Go.Proofs.YtilcdghliigngaaGreatDoor
namespace Go.Proofs.YtilcdghliigngaaGreatDoor
open Go.RowKit Go.Proofs.YtilcdghliigngaaGreatDoorGl Go.Proofs.YtilcdghliigngaaGreatDoorPm
set_option linter.unusedVariables false
set_option linter.unusedSimpArgs false
end Go.Proofs.YtilcdghliigngaaGreatDoor
namespace Go.Proofs.YtilcdghliigngaaGreatDoor
open Go.Proofs.YtilcdghliigngaaGreatDoorPm
set_option linter.unusedVariables false
set_option linter.unusedSimpArgs false
set_option linter.unusedSectionVars false
inductive WayE (g : List Edg) (s : Nat) : Nat → Nat → Prop
  | start : WayE g s 0 s
  | step {t u : Nat} {e : Edg} : WayE g s t u → e ∈ g → e.src = (u : Int) → WayE g s (t + e.len.toNat) e.dst.toNat
theorem nat_least {P : Nat → Prop} (h : ∃ n, P n) : ∃ n, P n ∧ ∀ m, P m → n ≤ m := by
  obtain ⟨n, hn⟩ := h
  induction n using Nat.strongRecOn with
  | ind n ih =>
    by_cases c : ∃ m, m < n ∧ P m
    · obtain ⟨m, h1, h2⟩ := c; exact ih m h1 h2
    · exact ⟨n, hn, fun m hm => Nat.le_of_not_lt fun hlt => c ⟨m, hlt, hm⟩⟩
open Classical in
noncomputable def dst (g : List Edg) (s d : Nat) : Int := if h : ∃ t, WayE g s t d then (((nat_least h).choose : Nat) : Int) else -1
theorem dst_spec (g : List Edg) (s d : Nat) : (dst g s d = -1 ∧ ∀ t, ¬ WayE g s t d) ∨ ∃ t : Nat, dst g s d = (t : Int) ∧ WayE g s t d ∧ ∀ m, WayE g s m d → t ≤ m := by
  unfold dst
  by_cases h : ∃ t, WayE g s t d
  · right
    rw [dif_pos h]
    exact ⟨_, rfl, (nat_least h).choose_spec⟩
  · left
    rw [dif_neg h]
    exact ⟨rfl, fun t ht => h ⟨t, ht⟩⟩
structure GOK (g : List Edg) (s v : Nat) : Prop where
  hv : 1 ≤ v ∧ v ≤ 40
  hs : s < v
  hl : g.length ≤ 120
  he : ∀ e ∈ g, 0 ≤ e.src ∧ e.src < (v : Int) ∧ 0 ≤ e.dst ∧ e.dst < (v : Int) ∧ 1 ≤ e.len ∧ e.len ≤ 16
section
variable {g : List Edg} {s v : Nat}
theorem dst_of {t d : Nat} (h : WayE g s t d) : 0 ≤ dst g s d ∧ dst g s d ≤ (t : Int) := by
  rcases dst_spec g s d with ⟨_, h2⟩ | ⟨t', h1, h2, h3⟩
  · exact absurd h (h2 t)
  · have := h3 t h; omega
theorem dst_reach {d : Nat} (h : 0 ≤ dst g s d) : ∃ t : Nat, dst g s d = (t : Int) ∧ WayE g s t d := by
  rcases dst_spec g s d with ⟨h1, h2⟩ | ⟨t', h1, h2, h3⟩
  · omega
  · exact ⟨t', h1, h2⟩
namespace GOK
variable (h : GOK g s v)
include h
theorem p1 {e : Edg} (he : e ∈ g) (h0 : 0 ≤ dst g s e.src.toNat) : 0 ≤ dst g s e.dst.toNat ∧ dst g s e.dst.toNat ≤ dst g s e.src.toNat + e.len := by
  obtain ⟨t, h1, h2⟩ := dst_reach h0
  have hb := h.he e he
  have := dst_of (WayE.step h2 he (by omega)); omega
theorem p2 {d : Nat} (h0 : 0 ≤ dst g s d) : (d = s ∧ dst g s d = 0) ∨ ∃ e ∈ g, e.dst = (d : Int) ∧ 0 ≤ dst g s e.src.toNat ∧ dst g s e.src.toNat + e.len = dst g s d := by
  obtain ⟨t, h1, h2⟩ := dst_reach h0
  cases h2 with
  | start => exact .inl ⟨rfl, by omega⟩
  | step hr he hs =>
    rename_i t' u e
    right
    have hb := h.he e he
    have h3 := dst_of hr
    have hu : e.src.toNat = u := by omega
    refine ⟨e, he, by omega, by rw [hu]; exact h3.1, ?_⟩
    have := (h.p1 he (by rw [hu]; exact h3.1)).2
    rw [hu] at this ⊢
    omega
theorem lt {d : Nat} (h0 : 0 ≤ dst g s d) : d < v := by
  rcases h.p2 h0 with ⟨rfl, _⟩ | ⟨e, he, h1, _⟩
  · exact h.hs
  · have := h.he e he; omega
theorem pos {d : Nat} (hd : d ≠ s) (h0 : 0 ≤ dst g s d) : 1 ≤ dst g s d := by
  rcases h.p2 h0 with ⟨h1, _⟩ | ⟨e, he, h1, h2, h3⟩
  · exact absurd h1 hd
  · have := h.he e he; omega
end GOK
namespace GOK
variable (h : GOK g s v)
include h
end GOK
namespace GOK
variable (h : GOK g s v)
include h
end GOK
end
end Go.Proofs.YtilcdghliigngaaGreatDoor
namespace Go.Proofs.YtilcdghliigngaaGreatDoor
open Go.RowKit Go.Proofs.YtilcdghliigngaaGreatDoorGl Go.Proofs.YtilcdghliigngaaGreatDoorPm
set_option linter.unusedVariables false
set_option linter.unusedSimpArgs false
set_option linter.unusedSectionVars false
section
variable {g : List Edg} {s v : Nat}
namespace GOK
variable (h : GOK g s v)
include h
end GOK
end
end Go.Proofs.YtilcdghliigngaaGreatDoor
namespace Go.Proofs.YtilcdghliigngaaGreatDoor
open Go.RowKit Go.Proofs.YtilcdghliigngaaGreatDoorGl Go.Proofs.YtilcdghliigngaaGreatDoorPm
set_option linter.unusedVariables false
set_option linter.unusedSimpArgs false
set_option linter.unusedSectionVars false
section
variable {g : List Edg} {s v : Nat}
theorem getD_some {xs : List Int} {d : Nat} (h : d < xs.length) : xs[d]? = some (xs.getD d 0) := by
  simp [List.getD, h]
namespace GOK
variable (h : GOK g s v)
include h
end GOK
end
end Go.Proofs.YtilcdghliigngaaGreatDoor
namespace Go.Proofs.YtilcdghliigngaaGreatDoor
open Go.RowKit Go.Proofs.YtilcdghliigngaaGreatDoorGl Go.Proofs.YtilcdghliigngaaGreatDoorPm
set_option linter.unusedVariables false
set_option linter.unusedSimpArgs false
end Go.Proofs.YtilcdghliigngaaGreatDoor
namespace Go.Proofs.YtilcdghliigngaaGreatDoor
open Go.RowKit Go.Proofs.YtilcdghliigngaaGreatDoorGl Go.Proofs.YtilcdghliigngaaGreatDoorPm
set_option linter.unusedVariables false
set_option linter.unusedSimpArgs false
section
variable {E : List Evt} {l : List Tap} {h : Int}
end
end Go.Proofs.YtilcdghliigngaaGreatDoor
namespace Go.Proofs.YtilcdghliigngaaGreatDoor
open Go.RowKit Go.Proofs.YtilcdghliigngaaGreatDoorGl Go.Proofs.YtilcdghliigngaaGreatDoorPm
set_option linter.unusedVariables false
set_option linter.unusedSimpArgs false
theorem Ro.ofB {w0 w : World} {b : Nat} {T : TypeId} {cs : List Value} {A A' : List Atom} (h : Sat w0 w A) (hp : Pull A (blk b T cs) A') : Ro w (some ⟨b, 0, none⟩) cs := fun j u hu => ⟨b, 0, rfl, by rw [Nat.zero_add]; exact (cell_of_blk (h.ofBlk hp) j).trans hu⟩
theorem fm_part {α : Type} {enc : α → List Value} {sz : Nat} (h : ∀ x, (enc x).length = sz) {o z : Nat} (hoz : o + z ≤ sz) : ∀ {xs : List α} {k : Nat} {x : α}, xs[k]? = some x → ((xs.flatMap enc).drop (k * sz + o)).take z = ((enc x).drop o).take z
  | [], k, x, hx => by simp at hx
  | y :: xs, 0, x, hx => by
    simp at hx; subst hx
    rw [List.flatMap_cons, Nat.zero_mul, Nat.zero_add, List.drop_append_of_le_length (by rw [h]; omega), List.take_append_of_le_length (by rw [List.length_drop, h]; omega)]
  | y :: xs, k + 1, x, hx => by
    have ih := fm_part h hoz (xs := xs) (k := k) (x := x) (by simpa using hx)
    rw [List.flatMap_cons, List.drop_append, List.drop_eq_nil_of_le (by rw [h, Nat.succ_mul]; omega), List.nil_append, h, show (k + 1) * sz + o - sz = k * sz + o by rw [Nat.succ_mul]; omega, ih]
theorem fm_put {α : Type} {enc : α → List Value} {sz : Nat} (h : ∀ x, (enc x).length = sz) {o : Nat} {vs : List Value} (hoz : o + vs.length ≤ sz) : ∀ {xs : List α} {k : Nat} {x y : α}, xs[k]? = some x → enc y = (enc x).take o ++ vs ++ (enc x).drop (o + vs.length) →
    (xs.flatMap enc).take (k * sz + o) ++ vs ++ (xs.flatMap enc).drop (k * sz + o + vs.length) = (xs.set k y).flatMap enc
  | [], k, x, y, hx, _ => by simp at hx
  | z :: xs, 0, x, y, hx, hy => by
    simp at hx; subst hx
    rw [List.flatMap_cons, List.set_cons_zero, List.flatMap_cons, Nat.zero_mul, Nat.zero_add, List.take_append_of_le_length (by rw [h]; omega), List.drop_append_of_le_length (by rw [h]; omega), hy]
    simp
  | z :: xs, k + 1, x, y, hx, hy => by
    have ih := fm_put h hoz (xs := xs) (k := k) (x := x) (by simpa using hx) hy
    have e : (k + 1) * sz + o = (enc z).length + (k * sz + o) := by rw [h, Nat.succ_mul]; omega
    rw [List.flatMap_cons, List.set_cons_succ, List.flatMap_cons, e, List.take_length_add_append, show (enc z).length + (k * sz + o) + vs.length = (enc z).length + (k * sz + o + vs.length) by omega, List.drop_length_add_append, ← ih]
    simp
theorem nm_step {α : Type} {xs : List α} {k : Nat} {x y : α} (hx : xs[k]? = some x) (h : ¬ y ∈ xs.take k) (hn : ¬ y = x) : ¬ y ∈ xs.take (k + 1) := by
  rw [List.take_add_one, hx]
  intro hm
  rcases List.mem_append.1 hm with hm | hm
  · exact h hm
  · exact hn (List.mem_singleton.1 hm)
theorem any_step {α : Type} {p : α → Bool} {xs : List α} {k : Nat} {x : α} (hx : xs[k]? = some x) (h : (xs.take k).any p = false) (hn : p x = false) : (xs.take (k + 1)).any p = false := by
  rw [List.take_add_one, hx, List.any_append, h]; simp [hn]
theorem any_of {α : Type} {p : α → Bool} {xs : List α} {k : Nat} {x : α} (hx : xs[k]? = some x) (h : p x = true) : xs.any p = true := List.any_eq_true.2 ⟨x, List.mem_iff_getElem?.2 ⟨k, hx⟩, h⟩
theorem Ops.xpos {P : Program} {r : Option Nat} {ops : Array Oper} {Q : Exit → Act → World → Prop} {w0 : World} {n : Nat} {D : List Deferred} {rest : List Oper} {L : Env} {A : List Atom} {a : Option Addr} {cs : List Value} (hX : ∀ w, Sat w0 w A → Ro w a cs) (hne : 0 < cs.length) (h : ∀ b o, a = some ⟨b, o, none⟩ → Ops P r ops Q w0 n D rest L A) : Ops P r ops Q w0 n D rest L A := by
  intro ac w hk hs
  obtain ⟨b, o, e⟩ := (hX w hs).pos hne
  exact h b o e ac w hk hs
theorem q_cutLH {P : Program} {w0 : World} {n : Nat} {D : List Deferred} {L : Env} {A : List Atom} {T E : TypeId} {x y z : Operand} {sz len cap lo hi m b o : Nat} {k1 k2 : IntKind} (hT : elT P T = some E) (hz : szT P E = some sz) (hx : ev L x = some (.slice (some ⟨b, o, none⟩) len cap)) (hy : ev L y = some (.int k1 (lo : Int))) (hyz : ev L z = some (.int k2 (hi : Int))) (h1 : lo ≤ hi) (h2 : hi ≤ cap) (h3 : lo < cap) (hm : hi - lo = m) :
    Qv P w0 n D L A (.slice T x (some y) (some z) none) (.slice (some ⟨b, o + lo * sz, none⟩) m (cap - lo)) := fun ac w hk' _ _ _ _ _ _ => ⟨by
    subst hm
    have h4 : ¬ cap = lo := by omega
    simp [execOp, hk'.ev hx, hk'.ev hy, hk'.ev hyz, Instr.sliceAt, Instr.slice, run_underlying (elT_u hT), Instr.sliceBounds, Instr.sliceBound, asIntOf, h1, h2, h4, Go.Proofs.YtilcdghliigngaaGreatDoorGl.run_sizeOf hz, add_at], rfl⟩
theorem take_get {α : Type} {xs : List α} {k : Nat} {x : α} (h : xs[k]? = some x) : xs.take (k + 1) = xs.take k ++ [x] := by rw [List.take_add_one, h]; rfl
end Go.Proofs.YtilcdghliigngaaGreatDoor
namespace Go.Proofs.YtilcdghliigngaaGreatDoor
open Go.RowKit Go.Proofs.YtilcdghliigngaaGreatDoorGl Go.Proofs.YtilcdghliigngaaGreatDoorPm
set_option linter.unusedVariables false
set_option linter.unusedSimpArgs false
theorem vwithin_c (a b c : Int) (w : World) : Calls Tryz.prog 55 [.int .i64 a, .int .i64 b, .int .i64 c].toArray w fun e w' => e = .returned (.bool (decide (b ≤ a ∧ a ≤ c))) ∧ Sat w w' [] := by
  refine fstart Tryz.func55 rfl rfl (Sat.nil w) ?_
  refine Cd.seq ?_
  refine Cd.region ?_
  refine Ops.q (q_asg rfl) ?_
  refine Ops.to rfl ?_
  refine Cd.seq ?_
  refine Cd.region ?_
  refine Ops.q (q_mv rfl) ?_
  refine Ops.q (q_mv rfl) ?_
  by_cases h1 : b ≤ a
  · refine Ops.q (q_cmp rfl rfl (c_ge h1)) ?_
    refine Ops.q (q_mv rfl) ?_
    refine Ops.q (q_mv rfl) ?_
    refine Ops.q (q_mv rfl) ?_
    by_cases h2 : a ≤ c
    · refine Ops.q (q_cmp rfl rfl (c_le h2)) ?_
      refine Ops.q (q_pickT rfl rfl) ?_
      refine Ops.q (q_asg rfl) ?_
      refine Ops.to rfl ?_
      refine Cd.rt (fn := Tryz.f55) [.bool true] (by with_reducible repeat (first | exact rq_here | apply rq_then | apply rq_block)) rfl ⟨rfl, trivial⟩ ?_
      intro w' hs
      exact ⟨ebool (by simp; try omega), hs⟩
    · refine Ops.q (q_cmp rfl rfl (c_nle (by omega))) ?_
      refine Ops.q (q_pickT rfl rfl) ?_
      refine Ops.q (q_asg rfl) ?_
      refine Ops.to rfl ?_
      refine Cd.rt (fn := Tryz.f55) [.bool false] (by with_reducible repeat (first | exact rq_here | apply rq_then | apply rq_block)) rfl ⟨rfl, trivial⟩ ?_
      intro w' hs
      exact ⟨ebool (by simp; try omega), hs⟩
  · refine Ops.q (q_cmp rfl rfl (c_nge (by omega))) ?_
    refine Ops.q (q_mv rfl) ?_
    refine Ops.sk ?_
    refine Ops.sk ?_
    refine Ops.sk ?_
    refine Ops.q (q_pickF rfl rfl) ?_
    refine Ops.q (q_asg rfl) ?_
    refine Ops.to rfl ?_
    refine Cd.rt (fn := Tryz.f55) [.bool false] (by with_reducible repeat (first | exact rq_here | apply rq_then | apply rq_block)) rfl ⟨rfl, trivial⟩ ?_
    intro w' hs
    exact ⟨ebool (by simp; try omega), hs⟩
theorem when0_c (x : Int) (w : World) : Calls Tryz.prog 42 [.bool false, .int .i64 x].toArray w fun e w' => e = .returned (.int .i64 0) ∧ Sat w w' [] := by
  refine fstart Tryz.func42 rfl rfl (Sat.nil w) ?_
  refine Cd.seq ?_
  refine Cd.region ?_
  refine Ops.q (q_asg rfl) ?_
  refine Ops.to rfl ?_
  refine Cd.seq ?_
  refine Cd.seq ?_
  refine Cd.region ?_
  refine Ops.q (q_mv rfl) ?_
  refine Ops.to rfl ?_
  refine Cd.cond_f rfl ?_
  refine Cd.skipTo rfl ?_
  refine Cd.seq ?_
  refine Cd.region ?_
  refine Ops.q (q_asg rfl) ?_
  refine Ops.to rfl ?_
  refine Cd.rt (fn := Tryz.f42) [.int .i64 0] (by with_reducible repeat (first | exact rq_here | apply rq_then | apply rq_block)) rfl ⟨rfl, trivial⟩ ?_
  intro w' hs'
  exact ⟨rfl, hs'.none⟩
theorem timed1_c (b : Nat) (t : Int) (w : World) (hb : Ro w (some ⟨b, 0, none⟩) [.int .i64 t]) (ht : 0 ≤ t ∧ t ≤ 10000) : Calls Tryz.prog 62 [.pointer (some ⟨b, 0, none⟩)].toArray w fun e w' => e = .returned (.int .i64 0) ∧ Sat w w' [] := by
  refine fstart Tryz.func62 rfl rfl (Sat.nil w) ?_
  refine Cd.seq ?_
  refine Cd.region ?_
  refine Ops.q (q_asg rfl) ?_
  refine Ops.to rfl ?_
  refine Cd.seq ?_
  refine Cd.region ?_
  refine Ops.q (q_ldR (v := .int .i64 t) isA_3 rfl (by simpa using Ro.at hb (j := 0) rfl)) ?_
  refine Ops.cp en_55 rfl (fun w hs => dT (vwithin_c t 0 10000 w) (ht)) ?_
  refine Ops.q (q_not rfl) ?_
  refine Ops.cp en_42 rfl (fun w hs => when0_c _ w) ?_
  refine Ops.q (q_asg rfl) ?_
  refine Ops.to rfl ?_
  refine Cd.rt (fn := Tryz.f62) [.int .i64 0] (by with_reducible repeat (first | exact rq_here | apply rq_then | apply rq_block)) rfl ⟨rfl, trivial⟩ ?_
  intro w' hs'
  exact ⟨rfl, hs'.none⟩
theorem timed_c (t : Int) (w : World) : Calls Tryz.prog 28 [.int .i64 t].toArray w fun e w' => ∃ b : Nat, e = .returned (.func (.func 62) #[] #[.pointer (some ⟨b, 0, none⟩)]) ∧ Sat w w' [blk b 3 [.int .i64 t]] := by
  refine fstart Tryz.func28 rfl rfl (Sat.nil w) ?_
  refine Cd.seq ?_
  refine Cd.region ?_
  refine Ops.box [.int .i64 t] rfl rfl ?_
  intro b1
  refine Ops.q (q_asg rfl) ?_
  refine Ops.to rfl ?_
  refine Cd.seq ?_
  refine Cd.region ?_
  refine Ops.q (q_mkf rfl rfl) ?_
  refine Ops.q (q_asg rfl) ?_
  refine Ops.to rfl ?_
  refine Cd.rt (fn := Tryz.f28) [.func (.func 62) #[] #[.pointer (some ⟨b1, 0, none⟩)]] (by with_reducible repeat (first | exact rq_here | apply rq_then | apply rq_block)) rfl ⟨rfl, trivial⟩ ?_
  intro w' hs'
  exact ⟨b1, rfl, hs'⟩
theorem rchk_c (b : Nat) (na : Option Addr) (nc : Nat) (sa : Option Addr) (sc : Nat) (ns : List Prm) (ip : Int) (ss : List Syn) (w : World) (hb : Ro w (some ⟨b, 0, none⟩) [.slice na ns.length nc, .int .i64 ip, .slice sa ss.length sc]) (hN : RoL w na ePrm ns) (hS : RoL w sa eSyn ss) : Calls Tryz.prog 22 [.pointer (some ⟨b, 0, none⟩)].toArray w fun e w' => e = .returned (.int .i64 (netCheck ⟨ns, ip, ss⟩)) ∧ Sat w w' [] := by
  refine fstart Tryz.func22 rfl rfl (Sat.nil w) ?_
  refine Cd.seq ?_
  refine Cd.region ?_
  refine Ops.q (q_asg rfl) ?_
  refine Ops.to rfl ?_
  refine Cd.seq ?_
  refine Cd.region ?_
  refine Ops.q (q_ldRN [.slice na ns.length nc, .int .i64 ip, .slice sa ss.length sc] isA_40 sz_40 rfl (fun j u hu => Ro.at hb hu)) ?_
  refine Ops.cp en_23 rfl (fun w hs => check_c _ _ _ _ ns ip ss w (hN.later hs.below) (hS.later hs.below)) ?_
  refine Ops.q (q_asg rfl) ?_
  refine Ops.to rfl ?_
  refine Cd.rt (fn := Tryz.f22) [.int .i64 (netCheck ⟨ns, ip, ss⟩)] (by with_reducible repeat (first | exact rq_here | apply rq_then | apply rq_block)) rfl ⟨rfl, trivial⟩ ?_
  intro w' hs'
  exact ⟨rfl, hs'.none⟩
theorem bchk_c (b : Nat) (na : Option Addr) (nc : Nat) (sa : Option Addr) (sc : Nat) (ns : List Prm) (ip : Int) (ss : List Syn) (w : World) (hb : Ro w (some ⟨b, 0, none⟩) [.slice na ns.length nc, .int .i64 ip, .slice sa ss.length sc]) (hN : RoL w na ePrm ns) (hS : RoL w sa eSyn ss) : Calls Tryz.prog 77 [.pointer (some ⟨b, 0, none⟩)].toArray w fun e w' => e = .returned (.int .i64 (netCheck ⟨ns, ip, ss⟩)) ∧ Sat w w' [] := by
  refine fstart Tryz.func77 rfl rfl (Sat.nil w) ?_
  refine Cd.seq ?_
  refine Cd.region ?_
  refine Ops.q (q_asg rfl) ?_
  refine Ops.to rfl ?_
  refine Cd.seq ?_
  refine Cd.region ?_
  refine Ops.q (q_ldRN [.slice na ns.length nc, .int .i64 ip, .slice sa ss.length sc] isA_40 sz_40 rfl (fun j u hu => Ro.at hb hu)) ?_
  refine Ops.cp en_23 rfl (fun w hs => check_c _ _ _ _ ns ip ss w (hN.later hs.below) (hS.later hs.below)) ?_
  refine Ops.q (q_asg rfl) ?_
  refine Ops.to rfl ?_
  refine Cd.rt (fn := Tryz.f77) [.int .i64 (netCheck ⟨ns, ip, ss⟩)] (by with_reducible repeat (first | exact rq_here | apply rq_then | apply rq_block)) rfl ⟨rfl, trivial⟩ ?_
  intro w' hs'
  exact ⟨rfl, hs'.none⟩
def evOK (ip : Int) (evs : List Evt) : Prop := 0 ≤ ip ∧ ip ≤ 256 ∧ orderedE ip 10000 evs = 0
def oneP : Prm := ⟨0, 0, 0, 1, 0, 0, 0, 0⟩
theorem evOK_prep {ip : Int} {evs : List Evt} (h : evOK ip evs) : preparedE ⟨[oneP], ip, []⟩ evs 0 10000 = 0 := by
  obtain ⟨h1, h2, h3⟩ := h
  have e : netCheck ⟨[oneP], ip, []⟩ = 0 := by
    unfold netCheck
    simp only [List.length_cons, List.length_nil]
    rw [if_neg (by omega), if_neg (by omega), if_neg (by omega), if_neg (by decide)]; rfl
  unfold preparedE
  rw [if_neg (by rw [e]; decide), if_pos (by decide)]
  exact h3
theorem events_run {pa : Option Addr} {pc : Nat} {ip : Int} {ea : Option Addr} {ec : Nat} {evs : List Evt} {w : World} (h : evOK ip evs) (hN : RoL w pa ePrm [oneP]) (hE : RoL w ea eEvt evs) (hec : evs.length ≤ ec) :
    Calls Tryz.prog 93 [.agg [.slice pa 1 pc, .int .i64 ip, .slice none 0 0].toArray, .slice ea evs.length ec, .int .i64 0].toArray w fun e w' => ∃ p : Option Addr × Nat, e = .returned (.tuple [.slice p.1 0 p.2, .int .i64 0].toArray) ∧ Sat w w' [] :=
  (run_some_n pa pc none 0 [oneP] ip [] ea ec evs evs.length rfl 0 w hN (fun j u hu => by simp at hu) hE hec [] (evOK_prep h) rfl).mono fun e w' ⟨p, h1, h2⟩ => ⟨p, h1, h2.none⟩
theorem events_c (na : Option Addr) (nc : Nat) (sa : Option Addr) (sc : Nat) (ns : List Prm) (ip : Int) (ss : List Syn) (ea : Option Addr) (ec : Nat) (evs : List Evt) (w : World) (h : evOK ip evs) (hE : RoL w ea eEvt evs) (hec : evs.length ≤ ec) : Calls Tryz.prog 56 [.agg [.slice na ns.length nc, .int .i64 ip, .slice sa ss.length sc].toArray, .slice ea evs.length ec].toArray w fun e w' => e = .returned (.int .i64 0) ∧ Sat w w' [] := by
  refine fstart Tryz.func56 rfl rfl (Sat.nil w) ?_
  refine Cd.seq ?_
  refine Cd.region ?_
  refine Ops.box [.slice na ns.length nc, .int .i64 ip, .slice sa ss.length sc] rfl rfl ?_
  intro b1
  refine Ops.q (q_asg rfl) ?_
  refine Ops.to rfl ?_
  refine Cd.seq ?_
  refine Cd.region ?_
  refine Ops.q (q_bld [.int .i64 0, .int .i64 0, .int .i64 0, .int .i64 1, .int .i64 0, .int .i64 0, .int .i64 0, .int .i64 0] pls_62 zc_62 rfl rfl) ?_
  refine Ops.lit [.int .i64 0, .int .i64 0, .int .i64 0, .int .i64 1, .int .i64 0, .int .i64 0, .int .i64 0, .int .i64 0] el_37 zsb_62 rfl rfl ⟨by decide, by decide⟩ rfl ?_
  intro b2
  refine Ops.q (q_fa fo_40_1 rfl) ?_
  refine Ops.q (q_ldB isA_3 rfl (.there .here) rfl) ?_
  refine Ops.q (q_bld [.slice (some ⟨b2, 0, none⟩) 1 1, .int .i64 ip, .slice none 0 0] pls_40 zc_40 rfl rfl) ?_
  refine Ops.q (q_mv rfl) ?_
  refine Ops.cl (α := Option Addr × Nat) (v := fun p => .tuple [.slice p.1 0 p.2, .int .i64 0].toArray) (B := fun _ => []) en_93 rfl (fun w hs => events_run h (hs.ownRo .here) (hE.later hs.below) hec) ?_
  rintro ⟨pa9, pc9⟩
  refine Ops.q (q_mv rfl) ?_
  refine Ops.q (q_ext rfl rfl) ?_
  refine Ops.q (q_ext rfl rfl) ?_
  refine Ops.q (q_asg rfl) ?_
  refine Ops.q (q_asg rfl) ?_
  refine Ops.to rfl ?_
  refine Cd.seq ?_
  refine Cd.region ?_
  refine Ops.q (q_mv rfl) ?_
  refine Ops.q (q_asg rfl) ?_
  refine Ops.to rfl ?_
  refine Cd.rt (fn := Tryz.f56) [.int .i64 0] (by with_reducible repeat (first | exact rq_here | apply rq_then | apply rq_block)) rfl ⟨rfl, trivial⟩ ?_
  intro w' hs'
  exact ⟨rfl, hs'.none⟩
theorem bev1_c (b c : Nat) (na : Option Addr) (nc : Nat) (sa : Option Addr) (sc : Nat) (ns : List Prm) (ip : Int) (ss : List Syn) (ea : Option Addr) (ec : Nat) (evs : List Evt) (w : World) (hb : Ro w (some ⟨b, 0, none⟩) [.slice na ns.length nc, .int .i64 ip, .slice sa ss.length sc]) (hc : Ro w (some ⟨c, 0, none⟩) [.slice ea evs.length ec]) (h : evOK ip evs) (hE : RoL w ea eEvt evs) (hec : evs.length ≤ ec) : Calls Tryz.prog 78 [.pointer (some ⟨b, 0, none⟩), .pointer (some ⟨c, 0, none⟩)].toArray w fun e w' => e = .returned (.int .i64 0) ∧ Sat w w' [] := by
  refine fstart Tryz.func78 rfl rfl (Sat.nil w) ?_
  refine Cd.seq ?_
  refine Cd.region ?_
  refine Ops.q (q_asg rfl) ?_
  refine Ops.to rfl ?_
  refine Cd.seq ?_
  refine Cd.region ?_
  refine Ops.q (q_ldRN [.slice na ns.length nc, .int .i64 ip, .slice sa ss.length sc] isA_40 sz_40 rfl (fun j u hu => Ro.at hb hu)) ?_
  refine Ops.q (q_ldR (v := .slice ea evs.length ec) isA_43 rfl (by simpa using Ro.at hc (j := 0) rfl)) ?_
  refine Ops.cp en_56 rfl (fun w hs => events_c _ _ _ _ ns ip ss _ _ _ w h (hE.later hs.below) hec) ?_
  refine Ops.q (q_asg rfl) ?_
  refine Ops.to rfl ?_
  refine Cd.rt (fn := Tryz.f78) [.int .i64 0] (by with_reducible repeat (first | exact rq_here | apply rq_then | apply rq_block)) rfl ⟨rfl, trivial⟩ ?_
  intro w' hs'
  exact ⟨rfl, hs'.none⟩
theorem bev2_c (b c : Nat) (na : Option Addr) (nc : Nat) (sa : Option Addr) (sc : Nat) (ns : List Prm) (ip : Int) (ss : List Syn) (ea : Option Addr) (ec : Nat) (evs : List Evt) (w : World) (hb : Ro w (some ⟨b, 0, none⟩) [.slice na ns.length nc, .int .i64 ip, .slice sa ss.length sc]) (hc : Ro w (some ⟨c, 0, none⟩) [.slice ea evs.length ec]) (h : evOK ip evs) (hE : RoL w ea eEvt evs) (hec : evs.length ≤ ec) : Calls Tryz.prog 79 [.pointer (some ⟨b, 0, none⟩), .pointer (some ⟨c, 0, none⟩)].toArray w fun e w' => e = .returned (.int .i64 0) ∧ Sat w w' [] := by
  refine fstart Tryz.func79 rfl rfl (Sat.nil w) ?_
  refine Cd.seq ?_
  refine Cd.region ?_
  refine Ops.q (q_asg rfl) ?_
  refine Ops.to rfl ?_
  refine Cd.seq ?_
  refine Cd.region ?_
  refine Ops.q (q_ldRN [.slice na ns.length nc, .int .i64 ip, .slice sa ss.length sc] isA_40 sz_40 rfl (fun j u hu => Ro.at hb hu)) ?_
  refine Ops.q (q_ldR (v := .slice ea evs.length ec) isA_43 rfl (by simpa using Ro.at hc (j := 0) rfl)) ?_
  refine Ops.cp en_56 rfl (fun w hs => events_c _ _ _ _ ns ip ss _ _ _ w h (hE.later hs.below) hec) ?_
  refine Ops.q (q_asg rfl) ?_
  refine Ops.to rfl ?_
  refine Cd.rt (fn := Tryz.f79) [.int .i64 0] (by with_reducible repeat (first | exact rq_here | apply rq_then | apply rq_block)) rfl ⟨rfl, trivial⟩ ?_
  intro w' hs'
  exact ⟨rfl, hs'.none⟩
abbrev FnV := FuncId × List Value
def eFn (f : FnV) : List Value := [.func (.func f.1) #[] f.2.toArray]
theorem eFn_len (f : FnV) : (eFn f).length = 1 := rfl
theorem first_c (fb nc : Nat) (fs : List FnV) (w0 w : World) (F : List Atom) (hl : fs.length ≤ 100) (hf : ∀ f ∈ fs, Enters Tryz.prog f.1 ∧ ∀ w, Sat w0 w (row (some ⟨fb, 0, none⟩) nc 58 1 fs.length (fs.flatMap eFn) :: F) → Calls Tryz.prog f.1 ([] ++ [] ++ f.2).toArray w fun e w' => e = .returned (.int .i64 0) ∧ Sat w w' []) (hs : Sat w0 w (row (some ⟨fb, 0, none⟩) nc 58 1 fs.length (fs.flatMap eFn) :: F)) : Calls Tryz.prog 21 [.slice (some ⟨fb, 0, none⟩) fs.length nc].toArray w fun e w' => e = .returned (.int .i64 0) ∧ Sat w0 w' (row (some ⟨fb, 0, none⟩) nc 58 1 fs.length (fs.flatMap eFn) :: F) := by
  refine fstart Tryz.func21 rfl rfl hs ?_
  refine Cd.seq ?_
  refine Cd.region ?_
  refine Ops.q (q_asg rfl) ?_
  refine Ops.to rfl ?_
  refine Cd.seq ?_
  refine Cd.seq ?_
  refine Cd.region ?_
  refine Ops.q (q_mv rfl) ?_
  refine Ops.q (q_len esz_115 rfl) ?_
  refine Ops.q (q_mv rfl) ?_
  refine Ops.to rfl ?_
  refine Cd.block ?_
  refine Cd.lp (σ := Nat) (fun k => k ≤ fs.length) (fun k => [(6, .slice (some ⟨fb, 0, none⟩) fs.length nc), (7, .int .i64 (fs.length : Int)), (8, .int .i64 (k : Int))]) (fun k => row (some ⟨fb, 0, none⟩) nc 58 1 fs.length (fs.flatMap eFn) :: F) (fun k => fs.length - k) 0 (Nat.zero_le _) ⟨rfl, rfl, rfl, trivial⟩ (fun _ hs => hs) ?_
  intro k hI
  refine Cd.seq ?_
  refine Cd.region ?_
  by_cases hk : (k : Int) < (fs.length : Int)
  · refine Ops.q (q_cmp rfl rfl (c_lt hk)) ?_
    obtain ⟨x1, hx2⟩ : ∃ x, fs[k]? = some x := ⟨_, List.getElem?_eq_getElem (by omega)⟩
    obtain ⟨hen, hcall⟩ := hf x1 (List.mem_iff_getElem?.2 ⟨k, hx2⟩)
    refine Ops.to rfl ?_
    refine Cd.seq ?_
    refine Cd.cond_t rfl ?_
    refine Cd.skipTo rfl ?_
    refine Cd.seq ?_
    refine Cd.block ?_
    refine Cd.seq ?_
    refine Cd.region ?_
    refine Ops.q (q_ix (k := k) esz_115 rfl rfl (by omega)) ?_
    refine Ops.q (q_ldO isA_58 rfl .here (fm_at0 eFn_len hx2 rfl)) ?_
    refine Ops.q (q_asg rfl) ?_
    refine Ops.to rfl ?_
    refine Cd.seq ?_
    refine Cd.region ?_
    refine Ops.q (q_mv rfl) ?_
    refine Ops.cv (α := Unit) (k := x1.1) (first := []) (caps := x1.2) (vs := []) (v := fun _ => .int .i64 0) (A' := fun _ => row (some ⟨fb, 0, none⟩) nc 58 1 fs.length (fs.flatMap eFn) :: F) hen rfl rfl (fun w hs => (hcall w hs).mono fun e w' h9 => ⟨(), h9.1, hs.over h9.2⟩) ?_
    intro _
    refine Ops.q (q_asg rfl) ?_
    refine Ops.to rfl ?_
    refine Cd.seq ?_
    refine Cd.region ?_
    refine Ops.q (q_mv rfl) ?_
    refine Ops.q (q_cmp rfl rfl (c_nne (by decide))) ?_
    refine Ops.to rfl ?_
    refine Cd.cond_f rfl ?_
    refine Cd.skipTo rfl ?_
    refine Cd.region ?_
    refine Ops.q (q_ar rfl rfl (a_inc (by omega))) ?_
    refine Ops.q (q_mv rfl) ?_
    refine Ops.rnd (k + 1) rfl (by omega) (by omega) ⟨rfl, rfl, rfl, trivial⟩ (fun _ hs => hs) 
  · refine Ops.q (q_cmp rfl rfl (c_nlt (by omega))) ?_
    refine Ops.to rfl ?_
    refine Cd.seq ?_
    refine Cd.cond_f rfl ?_
    refine Cd.exitTo rfl ?_
    refine Cd.seq ?_
    refine Cd.region ?_
    refine Ops.q (q_asg rfl) ?_
    refine Ops.to rfl ?_
    refine Cd.rt (fn := Tryz.f21) [.int .i64 0] (by with_reducible repeat (first | exact rq_here | apply rq_then | apply rq_block)) rfl ⟨rfl, trivial⟩ ?_
    intro w' hs'
    exact ⟨rfl, hs'⟩
theorem leak_c (p : Prm) (v : Int) (w : World) (hp : nCheck p = 0) (hv : wi v (-1048576) 1048576) : Calls Tryz.prog 108 [.agg (ePrm p).toArray, .int .i64 v].toArray w fun e w' => e = .returned (.tuple [.int .i64 (leakP p v), .int .i64 0].toArray) ∧ Sat w w' [] := by
  refine fstart Tryz.func108 rfl rfl (Sat.nil w) ?_
  refine Cd.seq ?_
  refine Cd.region ?_
  obtain ⟨hok, _, hlk, _⟩ := nCheck_ok hp
  refine Ops.box [.int .i64 p.lk, .int .i64 p.leak, .int .i64 p.bias, .int .i64 p.th, .int .i64 p.rk, .int .i64 p.rs, .int .i64 p.fl, .int .i64 p.rest] rfl rfl ?_
  intro b1
  refine Ops.q (q_asg rfl) ?_
  refine Ops.q (q_asg rfl) ?_
  refine Ops.to rfl ?_
  refine Cd.seq ?_
  refine Cd.seq ?_
  refine Cd.region ?_
  refine Ops.q (q_ldBN [.int .i64 p.lk, .int .i64 p.leak, .int .i64 p.bias, .int .i64 p.th, .int .i64 p.rk, .int .i64 p.rs, .int .i64 p.fl, .int .i64 p.rest] isA_62 sz_62 rfl .here rfl) ?_
  refine Ops.cp en_52 rfl (fun w hs => by have h9 := ncheck_c p w; rwa [hp] at h9) ?_
  refine Ops.q (q_asg rfl) ?_
  refine Ops.to rfl ?_
  refine Cd.seq ?_
  refine Cd.region ?_
  refine Ops.q (q_mv rfl) ?_
  refine Ops.q (q_cmp rfl rfl (c_nne (by decide))) ?_
  refine Ops.to rfl ?_
  refine Cd.cond_f rfl ?_
  refine Cd.skipTo rfl ?_
  refine Cd.seq ?_
  refine Cd.seq ?_
  refine Cd.region ?_
  refine Ops.q (q_mv rfl) ?_
  refine Ops.cp en_92 rfl (fun w hs => dT (uwithin_c v (-1048576) 1048576 w) (by unfold wi at hv; omega)) ?_
  refine Ops.q (q_not rfl) ?_
  refine Ops.to rfl ?_
  refine Cd.cond_f rfl ?_
  refine Cd.skipTo rfl ?_
  refine Cd.seq ?_
  refine Cd.region ?_
  refine Ops.q (q_fa fo_62_0 rfl) ?_
  refine Ops.q (q_ldB isA_3 rfl .here rfl) ?_
  refine Ops.cp en_91 rfl (fun w hs => leaks_t w hok) ?_
  refine Ops.q (q_mv rfl) ?_
  refine Ops.q (q_ext rfl rfl) ?_
  refine Ops.q (q_ext rfl rfl) ?_
  refine Ops.alc [.int .i64 0, .nilFunc] zc_165 ?_
  intro b2
  refine Ops.stB [.int .i64 (limP p.lk), .func (.func (fnK p.lk)) #[] #[]] [.int .i64 (limP p.lk), .func (.func (fnK p.lk)) #[] #[]] sz_165 rfl rfl rfl (one rfl) .here rfl rfl ?_
  refine Ops.q (q_asg rfl) ?_
  refine Ops.to rfl ?_
  refine Cd.seq ?_
  refine Cd.region ?_
  refine Ops.q (q_fa fo_165_1 rfl) ?_
  refine Ops.q (q_ldB isA_163 rfl .here rfl) ?_
  refine Ops.q (q_ldBN [.int .i64 p.lk, .int .i64 p.leak, .int .i64 p.bias, .int .i64 p.th, .int .i64 p.rk, .int .i64 p.rs, .int .i64 p.fl, .int .i64 p.rest] isA_62 sz_62 rfl (.there .here) rfl) ?_
  refine Ops.q (q_mv rfl) ?_
  refine Ops.cvE rfl rfl ((leakfn_c p v hok hlk hv).imp fun k h => ⟨h.1, h.2.1, fun w _ => h.2.2 w⟩) ?_
  refine Ops.q (q_asg rfl) ?_
  refine Ops.q (q_asg rfl) ?_
  refine Ops.to rfl ?_
  refine Cd.rt (fn := Tryz.f108) [.int .i64 (leakP p v), .int .i64 0] (by with_reducible repeat (first | exact rq_here | apply rq_then | apply rq_block)) rfl ⟨rfl, rfl, trivial⟩ ?_
  intro w' hs'
  exact ⟨rfl, hs'.none⟩
end Go.Proofs.YtilcdghliigngaaGreatDoor
namespace Go.Proofs.YtilcdghliigngaaGreatDoor
open Go.RowKit Go.Proofs.YtilcdghliigngaaGreatDoorGl Go.Proofs.YtilcdghliigngaaGreatDoorPm
set_option linter.unusedVariables false
set_option linter.unusedSimpArgs false
theorem index_c (xa : Option Addr) (xc : Nat) (xs : List Int) (y : Int) (w : World) (hX : RoL w xa eInt xs) (hl : xs.length ≤ 1000000) : Calls Tryz.prog 95 [.slice xa xs.length xc, .int .i64 y].toArray w fun e w' => ∃ i : Int, e = .returned (.int .i64 i) ∧ (0 ≤ i ↔ y ∈ xs) ∧ Sat w w' [] := by
  refine fstart Tryz.func95 rfl rfl (Sat.nil w) ?_
  refine Cd.seq ?_
  refine Cd.region ?_
  refine Ops.q (q_asg rfl) ?_
  refine Ops.to rfl ?_
  refine Cd.seq ?_
  refine Cd.seq ?_
  refine Cd.region ?_
  refine Ops.q (q_mv rfl) ?_
  refine Ops.q (q_len esz_31 rfl) ?_
  refine Ops.q (q_mv rfl) ?_
  refine Ops.to rfl ?_
  refine Cd.block ?_
  refine Cd.lp (σ := Nat) (fun k => k ≤ xs.length ∧ ¬ y ∈ xs.take k) (fun k => [(0, .slice xa xs.length xc), (1, .int .i64 y), (6, .slice xa xs.length xc), (7, .int .i64 (xs.length : Int)), (8, .int .i64 (k : Int))]) (fun k => []) (fun k => xs.length - k) 0 ⟨Nat.zero_le _, by simp⟩ ⟨rfl, rfl, rfl, rfl, rfl, trivial⟩ (fun _ hs => hs) ?_
  intro k hI
  have hI1 := hI.1
  refine Cd.seq ?_
  refine Cd.region ?_
  by_cases hk : (k : Int) < (xs.length : Int)
  · refine Ops.q (q_cmp rfl rfl (c_lt hk)) ?_
    obtain ⟨x1, hx2⟩ : ∃ x, xs[k]? = some x := ⟨_, List.getElem?_eq_getElem (by omega)⟩
    obtain ⟨ab3, ao4, rfl⟩ := RoL.pos hX eInt_len hx2
    refine Ops.to rfl ?_
    refine Cd.seq ?_
    refine Cd.cond_t rfl ?_
    refine Cd.skipTo rfl ?_
    refine Cd.seq ?_
    refine Cd.block ?_
    refine Cd.seq ?_
    refine Cd.region ?_
    refine Ops.q (q_mv rfl) ?_
    refine Ops.q (q_asg rfl) ?_
    refine Ops.to rfl ?_
    refine Cd.seq ?_
    refine Cd.region ?_
    refine Ops.q (q_mv rfl) ?_
    refine Ops.q (q_mv rfl) ?_
    refine Ops.q (q_mv rfl) ?_
    refine Ops.q (q_ix (k := k) esz_31 rfl rfl (by omega)) ?_
    refine Ops.q (q_ldR isA_3 rfl (hX.at0 eInt_len hx2 rfl)) ?_
    by_cases hq : y = x1
    · refine Ops.q (q_cmp rfl rfl (c_eq hq)) ?_
      refine Ops.to rfl ?_
      refine Cd.cond_t rfl ?_
      refine Cd.seq ?_
      refine Cd.region ?_
      refine Ops.q (q_mv rfl) ?_
      refine Ops.q (q_asg rfl) ?_
      refine Ops.to rfl ?_
      refine Cd.rt (fn := Tryz.f95) [.int .i64 (k : Int)] (by with_reducible repeat (first | exact rq_here | apply rq_then | apply rq_block)) rfl ⟨rfl, trivial⟩ ?_
      intro w' hs'
      exact ⟨(k : Int), rfl, ⟨fun _ => by rw [hq]; exact List.mem_iff_getElem?.2 ⟨k, hx2⟩, fun _ => by omega⟩, hs'.none⟩
    · refine Ops.q (q_cmp rfl rfl (c_neq hq)) ?_
      refine Ops.to rfl ?_
      refine Cd.cond_f rfl ?_
      refine Cd.skipTo rfl ?_
      refine Cd.region ?_
      refine Ops.q (q_ar rfl rfl (a_inc (by omega))) ?_
      refine Ops.q (q_mv rfl) ?_
      refine Ops.rnd (k + 1) rfl (⟨by omega, nm_step hx2 hI.2 hq⟩) (by omega) ⟨rfl, rfl, rfl, rfl, rfl, trivial⟩ (fun _ hs => hs) 
  · refine Ops.q (q_cmp rfl rfl (c_nlt (by omega))) ?_
    refine Ops.to rfl ?_
    refine Cd.seq ?_
    refine Cd.cond_f rfl ?_
    refine Cd.exitTo rfl ?_
    refine Cd.seq ?_
    refine Cd.region ?_
    refine Ops.q (q_asg rfl) ?_
    refine Ops.to rfl ?_
    refine Cd.rt (fn := Tryz.f95) [.int .i64 (-1)] (by with_reducible repeat (first | exact rq_here | apply rq_then | apply rq_block)) rfl ⟨rfl, trivial⟩ ?_
    intro w' hs'
    exact ⟨-1, rfl, ⟨fun h => by omega, fun h => by have h9 := hI.2; rw [List.take_of_length_le (by omega)] at h9; exact (h9 h).elim⟩, hs'.none⟩
theorem contains_c (xa : Option Addr) (xc : Nat) (xs : List Int) (y : Int) (w : World) (hX : RoL w xa eInt xs) (hl : xs.length ≤ 1000000) : Calls Tryz.prog 59 [.slice xa xs.length xc, .int .i64 y].toArray w fun e w' => e = .returned (.bool (decide (y ∈ xs))) ∧ Sat w w' [] := by
  refine fstart Tryz.func59 rfl rfl (Sat.nil w) ?_
  refine Cd.seq ?_
  refine Cd.region ?_
  refine Ops.q (q_asg rfl) ?_
  refine Ops.to rfl ?_
  refine Cd.seq ?_
  refine Cd.region ?_
  refine Ops.q (q_mv rfl) ?_
  refine Ops.q (q_mv rfl) ?_
  refine Ops.cl (α := {i : Int // 0 ≤ i ↔ y ∈ xs}) (v := fun i => .int .i64 i.1) (B := fun _ => []) en_95 rfl (fun w hs => (index_c _ _ xs y w (hX.later hs.below) hl).mono fun e w' ⟨i, h1, h2, h3⟩ => ⟨⟨i, h2⟩, h1, h3⟩) ?_
  rintro ⟨i9, hi9⟩
  refine Ops.q (q_cmp rfl rfl rfl) ?_
  refine Ops.q (q_asg rfl) ?_
  refine Ops.to rfl ?_
  refine Cd.rt (fn := Tryz.f59) [.bool (decide (0 ≤ i9))] (by with_reducible repeat (first | exact rq_here | apply rq_then | apply rq_block)) rfl ⟨rfl, trivial⟩ ?_
  intro w' hs'
  exact ⟨ebool (by simpa using hi9), hs'.none⟩
theorem ifunc_int (xa : Option Addr) (xc : Nat) (xs : List Int) (kf : FuncId) (caps : List Value) (p : Int → Bool) (w0 w : World) (F : List Atom) (hX : ∀ w, Sat w0 w F → RoL w xa eInt xs) (hl : xs.length ≤ 1000000) (he : Enters Tryz.prog kf) (hf : ∀ x ∈ xs, ∀ w, Sat w0 w F → Calls Tryz.prog kf ([] ++ [Value.int .i64 x] ++ caps).toArray w fun e w' => e = .returned (.bool (p x)) ∧ Sat w w' []) (hs : Sat w0 w F) : Calls Tryz.prog 96 [.slice xa xs.length xc, .func (.func kf) #[] caps.toArray].toArray w fun e w' => ∃ i : Int, e = .returned (.int .i64 i) ∧ (0 ≤ i ↔ xs.any p = true) ∧ Sat w0 w' F := by
  refine fstart Tryz.func96 rfl rfl hs ?_
  refine Cd.seq ?_
  refine Cd.region ?_
  refine Ops.q (q_asg rfl) ?_
  refine Ops.to rfl ?_
  refine Cd.seq ?_
  refine Cd.seq ?_
  refine Cd.region ?_
  refine Ops.q (q_mv rfl) ?_
  refine Ops.q (q_len esz_31 rfl) ?_
  refine Ops.q (q_mv rfl) ?_
  refine Ops.to rfl ?_
  refine Cd.block ?_
  refine Cd.lp (σ := Nat) (fun k => k ≤ xs.length ∧ (xs.take k).any p = false) (fun k => [(0, .slice xa xs.length xc), (1, .func (.func kf) #[] caps.toArray), (6, .slice xa xs.length xc), (7, .int .i64 (xs.length : Int)), (8, .int .i64 (k : Int))]) (fun k => F) (fun k => xs.length - k) 0 ⟨Nat.zero_le _, by simp⟩ ⟨rfl, rfl, rfl, rfl, rfl, trivial⟩ (fun _ hs => hs) ?_
  intro k hI
  have hI1 := hI.1
  refine Cd.seq ?_
  refine Cd.region ?_
  by_cases hk : (k : Int) < (xs.length : Int)
  · refine Ops.q (q_cmp rfl rfl (c_lt hk)) ?_
    obtain ⟨x1, hx2⟩ : ∃ x, xs[k]? = some x := ⟨_, List.getElem?_eq_getElem (by omega)⟩
    refine Ops.xpos (a := xa) (cs := xs.flatMap eInt) (fun w hs => hX w hs) (fm_pos eInt_len hx2) ?_
    rintro ab3 ao4 rfl
    refine Ops.to rfl ?_
    refine Cd.seq ?_
    refine Cd.cond_t rfl ?_
    refine Cd.skipTo rfl ?_
    refine Cd.seq ?_
    refine Cd.block ?_
    refine Cd.seq ?_
    refine Cd.region ?_
    refine Ops.q (q_mv rfl) ?_
    refine Ops.q (q_asg rfl) ?_
    refine Ops.to rfl ?_
    refine Cd.seq ?_
    refine Cd.region ?_
    refine Ops.q (q_mv rfl) ?_
    refine Ops.q (q_mv rfl) ?_
    refine Ops.q (q_mv rfl) ?_
    refine Ops.q (q_ix (k := k) esz_31 rfl rfl (by omega)) ?_
    refine Ops.q (q_ld (v := .int .i64 x1) isA_3 rfl (fun w hs => (hX w hs).at0 eInt_len hx2 rfl)) ?_
    refine Ops.cv (α := Unit) (k := kf) (first := []) (caps := caps) (vs := [.int .i64 x1]) (v := fun _ => .bool (p x1)) (A' := fun _ => F) he rfl rfl ?_ ?_
    · intro w hs
      have h10 := hf x1 (List.mem_iff_getElem?.2 ⟨k, hx2⟩) w hs
      exact h10.mono fun e w' h9 => ⟨(), h9.1, hs.over h9.2⟩
    intro _
    refine Ops.to rfl ?_
    refine Cd.cond rfl (fun h5 => ?_) (fun h5 => ?_)
    · refine Cd.seq ?_
      refine Cd.region ?_
      refine Ops.q (q_mv rfl) ?_
      refine Ops.q (q_asg rfl) ?_
      refine Ops.to rfl ?_
      refine Cd.rt (fn := Tryz.f96) [.int .i64 (k : Int)] (by with_reducible repeat (first | exact rq_here | apply rq_then | apply rq_block)) rfl ⟨rfl, trivial⟩ ?_
      intro w' hs'
      exact ⟨(k : Int), rfl, ⟨fun _ => any_of hx2 h5, fun _ => by omega⟩, hs'⟩
    · refine Cd.skipTo rfl ?_
      refine Cd.region ?_
      refine Ops.q (q_ar rfl rfl (a_inc (by omega))) ?_
      refine Ops.q (q_mv rfl) ?_
      refine Ops.rnd (k + 1) rfl (⟨by omega, any_step hx2 hI.2 (by simpa using h5)⟩) (by omega) ⟨rfl, rfl, rfl, rfl, rfl, trivial⟩ (fun _ hs => hs) 
  · refine Ops.q (q_cmp rfl rfl (c_nlt (by omega))) ?_
    refine Ops.to rfl ?_
    refine Cd.seq ?_
    refine Cd.cond_f rfl ?_
    refine Cd.exitTo rfl ?_
    refine Cd.seq ?_
    refine Cd.region ?_
    refine Ops.q (q_asg rfl) ?_
    refine Ops.to rfl ?_
    refine Cd.rt (fn := Tryz.f96) [.int .i64 (-1)] (by with_reducible repeat (first | exact rq_here | apply rq_then | apply rq_block)) rfl ⟨rfl, trivial⟩ ?_
    intro w' hs'
    exact ⟨-1, rfl, ⟨fun h => by omega, fun h => by have h9 := hI.2; rw [List.take_of_length_le (by omega)] at h9; rw [h9] at h; cases h⟩, hs'⟩
theorem cfunc_int (xa : Option Addr) (xc : Nat) (xs : List Int) (kf : FuncId) (caps : List Value) (p : Int → Bool) (w0 w : World) (F : List Atom) (hX : ∀ w, Sat w0 w F → RoL w xa eInt xs) (hl : xs.length ≤ 1000000) (he : Enters Tryz.prog kf) (hf : ∀ x ∈ xs, ∀ w, Sat w0 w F → Calls Tryz.prog kf ([] ++ [Value.int .i64 x] ++ caps).toArray w fun e w' => e = .returned (.bool (p x)) ∧ Sat w w' []) (hs : Sat w0 w F) : Calls Tryz.prog 60 [.slice xa xs.length xc, .func (.func kf) #[] caps.toArray].toArray w fun e w' => e = .returned (.bool (xs.any p)) ∧ Sat w0 w' F := by
  refine fstart Tryz.func60 rfl rfl hs ?_
  refine Cd.seq ?_
  refine Cd.region ?_
  refine Ops.q (q_asg rfl) ?_
  refine Ops.to rfl ?_
  refine Cd.seq ?_
  refine Cd.region ?_
  refine Ops.q (q_mv rfl) ?_
  refine Ops.q (q_mv rfl) ?_
  refine Ops.cm (α := {i : Int // 0 ≤ i ↔ xs.any p = true}) (v := fun i => .int .i64 i.1) (A' := fun _ => F) en_96 rfl (fun w hs => (ifunc_int xa xc xs kf caps p w0 w F hX hl he hf hs).mono fun e w' ⟨i, h1, h2, h3⟩ => ⟨⟨i, h2⟩, h1, h3⟩) ?_
  rintro ⟨i9, hi9⟩
  refine Ops.q (q_cmp rfl rfl rfl) ?_
  refine Ops.q (q_asg rfl) ?_
  refine Ops.to rfl ?_
  refine Cd.rt (fn := Tryz.f60) [.bool (decide (0 ≤ i9))] (by with_reducible repeat (first | exact rq_here | apply rq_then | apply rq_block)) rfl ⟨rfl, trivial⟩ ?_
  intro w' hs'
  exact ⟨by show Ending.returned (.bool (decide (0 ≤ i9))) = _; rw [show decide (0 ≤ i9) = xs.any p from by cases h9 : xs.any p <;> simp [hi9, h9]], hs'⟩
theorem ifunc_evt (xa : Option Addr) (xc : Nat) (xs : List Evt) (kf : FuncId) (caps : List Value) (p : Evt → Bool) (w0 w : World) (F : List Atom) (hX : ∀ w, Sat w0 w F → RoL w xa eEvt xs) (hl : xs.length ≤ 1000000) (he : Enters Tryz.prog kf) (hf : ∀ x ∈ xs, ∀ w, Sat w0 w F → Calls Tryz.prog kf ([] ++ [Value.agg [Value.int .i64 x.tick, Value.int .i64 x.id].toArray] ++ caps).toArray w fun e w' => e = .returned (.bool (p x)) ∧ Sat w w' []) (hs : Sat w0 w F) : Calls Tryz.prog 94 [.slice xa xs.length xc, .func (.func kf) #[] caps.toArray].toArray w fun e w' => ∃ i : Int, e = .returned (.int .i64 i) ∧ (0 ≤ i ↔ xs.any p = true) ∧ Sat w0 w' F := by
  refine fstart Tryz.func94 rfl rfl hs ?_
  refine Cd.seq ?_
  refine Cd.region ?_
  refine Ops.q (q_asg rfl) ?_
  refine Ops.to rfl ?_
  refine Cd.seq ?_
  refine Cd.seq ?_
  refine Cd.region ?_
  refine Ops.q (q_mv rfl) ?_
  refine Ops.q (q_len esz_43 rfl) ?_
  refine Ops.q (q_mv rfl) ?_
  refine Ops.to rfl ?_
  refine Cd.block ?_
  refine Cd.lp (σ := Nat) (fun k => k ≤ xs.length ∧ (xs.take k).any p = false) (fun k => [(0, .slice xa xs.length xc), (1, .func (.func kf) #[] caps.toArray), (6, .slice xa xs.length xc), (7, .int .i64 (xs.length : Int)), (8, .int .i64 (k : Int))]) (fun k => F) (fun k => xs.length - k) 0 ⟨Nat.zero_le _, by simp⟩ ⟨rfl, rfl, rfl, rfl, rfl, trivial⟩ (fun _ hs => hs) ?_
  intro k hI
  have hI1 := hI.1
  refine Cd.seq ?_
  refine Cd.region ?_
  by_cases hk : (k : Int) < (xs.length : Int)
  · refine Ops.q (q_cmp rfl rfl (c_lt hk)) ?_
    obtain ⟨x1, hx2⟩ : ∃ x, xs[k]? = some x := ⟨_, List.getElem?_eq_getElem (by omega)⟩
    refine Ops.xpos (a := xa) (cs := xs.flatMap eEvt) (fun w hs => hX w hs) (fm_pos eEvt_len hx2) ?_
    rintro ab3 ao4 rfl
    refine Ops.to rfl ?_
    refine Cd.seq ?_
    refine Cd.cond_t rfl ?_
    refine Cd.skipTo rfl ?_
    refine Cd.seq ?_
    refine Cd.block ?_
    refine Cd.seq ?_
    refine Cd.region ?_
    refine Ops.q (q_mv rfl) ?_
    refine Ops.q (q_asg rfl) ?_
    refine Ops.to rfl ?_
    refine Cd.seq ?_
    refine Cd.region ?_
    refine Ops.q (q_mv rfl) ?_
    refine Ops.q (q_mv rfl) ?_
    refine Ops.q (q_mv rfl) ?_
    refine Ops.q (q_ix (k := k) esz_43 rfl rfl (by omega)) ?_
    refine Ops.q (q_ldN (vs := [.int .i64 x1.tick, .int .i64 x1.id]) isA_70 sz_70 rfl (fun w hs j u hu => (hX w hs).at eEvt_len hx2 hu)) ?_
    refine Ops.cv (α := Unit) (k := kf) (first := []) (caps := caps) (vs := [.agg [.int .i64 x1.tick, .int .i64 x1.id].toArray]) (v := fun _ => .bool (p x1)) (A' := fun _ => F) he rfl rfl ?_ ?_
    · intro w hs
      have h10 := hf x1 (List.mem_iff_getElem?.2 ⟨k, hx2⟩) w hs
      exact h10.mono fun e w' h9 => ⟨(), h9.1, hs.over h9.2⟩
    intro _
    refine Ops.to rfl ?_
    refine Cd.cond rfl (fun h5 => ?_) (fun h5 => ?_)
    · refine Cd.seq ?_
      refine Cd.region ?_
      refine Ops.q (q_mv rfl) ?_
      refine Ops.q (q_asg rfl) ?_
      refine Ops.to rfl ?_
      refine Cd.rt (fn := Tryz.f94) [.int .i64 (k : Int)] (by with_reducible repeat (first | exact rq_here | apply rq_then | apply rq_block)) rfl ⟨rfl, trivial⟩ ?_
      intro w' hs'
      exact ⟨(k : Int), rfl, ⟨fun _ => any_of hx2 h5, fun _ => by omega⟩, hs'⟩
    · refine Cd.skipTo rfl ?_
      refine Cd.region ?_
      refine Ops.q (q_ar rfl rfl (a_inc (by omega))) ?_
      refine Ops.q (q_mv rfl) ?_
      refine Ops.rnd (k + 1) rfl (⟨by omega, any_step hx2 hI.2 (by simpa using h5)⟩) (by omega) ⟨rfl, rfl, rfl, rfl, rfl, trivial⟩ (fun _ hs => hs) 
  · refine Ops.q (q_cmp rfl rfl (c_nlt (by omega))) ?_
    refine Ops.to rfl ?_
    refine Cd.seq ?_
    refine Cd.cond_f rfl ?_
    refine Cd.exitTo rfl ?_
    refine Cd.seq ?_
    refine Cd.region ?_
    refine Ops.q (q_asg rfl) ?_
    refine Ops.to rfl ?_
    refine Cd.rt (fn := Tryz.f94) [.int .i64 (-1)] (by with_reducible repeat (first | exact rq_here | apply rq_then | apply rq_block)) rfl ⟨rfl, trivial⟩ ?_
    intro w' hs'
    exact ⟨-1, rfl, ⟨fun h => by omega, fun h => by have h9 := hI.2; rw [List.take_of_length_le (by omega)] at h9; rw [h9] at h; cases h⟩, hs'⟩
theorem cfunc_evt (xa : Option Addr) (xc : Nat) (xs : List Evt) (kf : FuncId) (caps : List Value) (p : Evt → Bool) (w0 w : World) (F : List Atom) (hX : ∀ w, Sat w0 w F → RoL w xa eEvt xs) (hl : xs.length ≤ 1000000) (he : Enters Tryz.prog kf) (hf : ∀ x ∈ xs, ∀ w, Sat w0 w F → Calls Tryz.prog kf ([] ++ [Value.agg [Value.int .i64 x.tick, Value.int .i64 x.id].toArray] ++ caps).toArray w fun e w' => e = .returned (.bool (p x)) ∧ Sat w w' []) (hs : Sat w0 w F) : Calls Tryz.prog 57 [.slice xa xs.length xc, .func (.func kf) #[] caps.toArray].toArray w fun e w' => e = .returned (.bool (xs.any p)) ∧ Sat w0 w' F := by
  refine fstart Tryz.func57 rfl rfl hs ?_
  refine Cd.seq ?_
  refine Cd.region ?_
  refine Ops.q (q_asg rfl) ?_
  refine Ops.to rfl ?_
  refine Cd.seq ?_
  refine Cd.region ?_
  refine Ops.q (q_mv rfl) ?_
  refine Ops.q (q_mv rfl) ?_
  refine Ops.cm (α := {i : Int // 0 ≤ i ↔ xs.any p = true}) (v := fun i => .int .i64 i.1) (A' := fun _ => F) en_94 rfl (fun w hs => (ifunc_evt xa xc xs kf caps p w0 w F hX hl he hf hs).mono fun e w' ⟨i, h1, h2, h3⟩ => ⟨⟨i, h2⟩, h1, h3⟩) ?_
  rintro ⟨i9, hi9⟩
  refine Ops.q (q_cmp rfl rfl rfl) ?_
  refine Ops.q (q_asg rfl) ?_
  refine Ops.to rfl ?_
  refine Cd.rt (fn := Tryz.f57) [.bool (decide (0 ≤ i9))] (by with_reducible repeat (first | exact rq_here | apply rq_then | apply rq_block)) rfl ⟨rfl, trivial⟩ ?_
  intro w' hs'
  exact ⟨by show Ending.returned (.bool (decide (0 ≤ i9))) = _; rw [show decide (0 ≤ i9) = xs.any p from by cases h9 : xs.any p <;> simp [hi9, h9]], hs'⟩
theorem met_c (b : Nat) (pa : Option Addr) (pc : Nat) (sp : List Int) (i : Int) (w : World) (hb : Ro w (some ⟨b, 0, none⟩) [.slice pa sp.length pc]) (hS : RoL w pa eInt sp) (hl : sp.length ≤ 100000) : Calls Tryz.prog 69 [.int .i64 i, .pointer (some ⟨b, 0, none⟩)].toArray w fun e w' => e = .returned (.bool (decide (i ∈ sp))) ∧ Sat w w' [] := by
  refine fstart Tryz.func69 rfl rfl (Sat.nil w) ?_
  refine Cd.seq ?_
  refine Cd.region ?_
  refine Ops.q (q_asg rfl) ?_
  refine Ops.to rfl ?_
  refine Cd.seq ?_
  refine Cd.region ?_
  refine Ops.q (q_ldR (v := .slice pa sp.length pc) isA_31 rfl (by simpa using Ro.at hb (j := 0) rfl)) ?_
  refine Ops.q (q_mv rfl) ?_
  refine Ops.cp en_59 rfl (fun w hs => contains_c _ _ sp i w (hS.later hs.below) (by omega)) ?_
  refine Ops.q (q_asg rfl) ?_
  refine Ops.to rfl ?_
  refine Cd.rt (fn := Tryz.f69) [.bool (decide (i ∈ sp))] (by with_reducible repeat (first | exact rq_here | apply rq_then | apply rq_block)) rfl ⟨rfl, trivial⟩ ?_
  intro w' hs'
  exact ⟨rfl, hs'.none⟩
theorem Ro.later {w w' : World} {a : Option Addr} {cs : List Value} (h : Ro w a cs) (hb : Below w.heap.size w w') : Ro w' a cs := fun j u hu => by
  obtain ⟨b, o, e, hc⟩ := h j u hu
  exact ⟨b, o, e, (hb.cell (World.block_lt_of_cell? w _ hc)).trans hc⟩
theorem nmet_c (c b : Nat) (pa : Option Addr) (pc : Nat) (sp : List Int) (i : Int) (w : World) (hc : Ro w (some ⟨c, 0, none⟩) [.func (.func 69) #[] #[.pointer (some ⟨b, 0, none⟩)]]) (hb : Ro w (some ⟨b, 0, none⟩) [.slice pa sp.length pc]) (hS : RoL w pa eInt sp) (hl : sp.length ≤ 100000) : Calls Tryz.prog 70 [.int .i64 i, .pointer (some ⟨c, 0, none⟩)].toArray w fun e w' => e = .returned (.bool (!decide (i ∈ sp))) ∧ Sat w w' [] := by
  refine fstart Tryz.func70 rfl rfl (Sat.nil w) ?_
  refine Cd.seq ?_
  refine Cd.region ?_
  refine Ops.q (q_asg rfl) ?_
  refine Ops.to rfl ?_
  refine Cd.seq ?_
  refine Cd.region ?_
  refine Ops.q (q_ldR (v := .func (.func 69) #[] #[.pointer (some ⟨b, 0, none⟩)]) isA_104 rfl (by simpa using Ro.at hc (j := 0) rfl)) ?_
  refine Ops.q (q_mv rfl) ?_
  refine Ops.cv (α := Unit) (k := 69) (first := []) (caps := [.pointer (some ⟨b, 0, none⟩)]) (vs := [.int .i64 i]) (v := fun _ => .bool (decide (i ∈ sp))) (A' := fun _ => []) en_69 rfl rfl (fun w hs => (met_c b pa pc sp i w (Ro.later hb hs.below) (hS.later hs.below) hl).mono fun e w' h9 => ⟨(), h9.1, hs.over h9.2⟩) ?_
  intro _
  refine Ops.q (q_not rfl) ?_
  refine Ops.q (q_asg rfl) ?_
  refine Ops.to rfl ?_
  refine Cd.rt (fn := Tryz.f70) [.bool (!(decide (i ∈ sp)))] (by with_reducible repeat (first | exact rq_here | apply rq_then | apply rq_block)) rfl ⟨rfl, trivial⟩ ?_
  intro w' hs'
  exact ⟨rfl, hs'.none⟩
theorem nofree_c (b : Nat) (x : Evt) (u v : Value) (w : World) (hb : Ro w (some ⟨b, 0, none⟩) [.slice none 0 0, u, v]) : Calls Tryz.prog 58 [.agg (eEvt x).toArray, .pointer (some ⟨b, 0, none⟩)].toArray w fun e w' => e = .returned (.bool false) ∧ Sat w w' [] := by
  refine fstart Tryz.func58 rfl rfl (Sat.nil w) ?_
  refine Cd.seq ?_
  refine Cd.region ?_
  refine Ops.box [.int .i64 x.tick, .int .i64 x.id] rfl rfl ?_
  intro b1
  refine Ops.q (q_asg rfl) ?_
  refine Ops.to rfl ?_
  refine Cd.seq ?_
  refine Cd.region ?_
  refine Ops.q (q_fa fo_49_0 rfl) ?_
  refine Ops.q (q_ldR (v := .slice none 0 0) isA_31 rfl (Ro.at hb (j := 0) rfl)) ?_
  refine Ops.q (q_fa fo_70_1 rfl) ?_
  refine Ops.q (q_ldB isA_3 rfl .here rfl) ?_
  refine Ops.cp en_59 rfl (fun w hs => contains_c none 0 [] x.id w (fun j u hu => by simp at hu) (by decide)) ?_
  refine Ops.q (q_asg rfl) ?_
  refine Ops.to rfl ?_
  refine Cd.rt (fn := Tryz.f58) [.bool false] (by with_reducible repeat (first | exact rq_here | apply rq_then | apply rq_block)) rfl ⟨rfl, trivial⟩ ?_
  intro w' hs'
  exact ⟨rfl, hs'.none⟩
theorem inside_c (b : Nat) (na : Option Addr) (n nc : Nat) (u v : Value) (i : Int) (w : World) (hb : Ro w (some ⟨b, 0, none⟩) [.slice na n nc, u, v]) (hi : 0 ≤ i ∧ i < n) (hn : n ≤ 100000) : Calls Tryz.prog 61 [.int .i64 i, .pointer (some ⟨b, 0, none⟩)].toArray w fun e w' => e = .returned (.bool false) ∧ Sat w w' [] := by
  refine fstart Tryz.func61 rfl rfl (Sat.nil w) ?_
  refine Cd.seq ?_
  refine Cd.region ?_
  refine Ops.q (q_asg rfl) ?_
  refine Ops.to rfl ?_
  refine Cd.seq ?_
  refine Cd.region ?_
  refine Ops.q (q_mv rfl) ?_
  refine Ops.q (q_fa fo_40_0 rfl) ?_
  refine Ops.q (q_ldR (v := .slice na n nc) isA_37 rfl (Ro.at hb (j := 0) rfl)) ?_
  refine Ops.q (q_len esz_37 rfl) ?_
  refine Ops.q (q_ar rfl rfl (a_sub (by omega))) ?_
  refine Ops.cp en_55 rfl (fun w hs => dT (vwithin_c i 0 ((n : Int) - 1) w) (by omega)) ?_
  refine Ops.q (q_not rfl) ?_
  refine Ops.q (q_asg rfl) ?_
  refine Ops.to rfl ?_
  refine Cd.rt (fn := Tryz.f61) [.bool false] (by with_reducible repeat (first | exact rq_here | apply rq_then | apply rq_block)) rfl ⟨rfl, trivial⟩ ?_
  intro w' hs'
  exact ⟨rfl, hs'.none⟩
end Go.Proofs.YtilcdghliigngaaGreatDoor
