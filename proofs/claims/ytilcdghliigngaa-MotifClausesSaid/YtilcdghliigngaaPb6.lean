/- Part of a claim: the program logic, the contracts of the functions, their models. No condition. -/
import Derived.WalkKit
import Derived.OwnWalkIn
import Derived.TacticsInMore
import Derived.OrdersIn
import Derived.RangeFuncLeaves
import Derived.RangeFuncNested
import Derived.Maps.AppendAt
import Derived.Shelf.Abstract
import Derived.Test.YtilcdghliigngaaProg
import Derived.MapKept
import Derived.Laws.StructEq
import Derived.Laws.OwnMore
import Derived.RangeFuncRecord
import Derived.Lib.SliceRun
import Derived.Lib.AppendZeros
import Derived.Lib.AppendZerosOnto
import Derived.Lib.Overlaps
import Derived.Laws.Externs
import Derived.Test.YtilcdghliigngaaPb5
namespace Go.Proofs.Ytilcdghliigngaa
open Go.RowKit Go.Proofs.YtilcdghliigngaaGl Go.Proofs.YtilcdghliigngaaPm
set_option linter.unusedVariables false
set_option linter.unusedSimpArgs false
abbrev clR (lz : List CL) : World → Prop := fun w => ∀ l ∈ lz, RoL w l.1.1.1 eInt l.1.2
theorem clR_grow {lz : List CL} {a : Option Addr} {c : Nat} {xr : List Int} {xt : Int} (w : World) (h : clR lz w) (h2 : Ro w a (xr.flatMap eInt)) : clR (lz ++ [(((a, c), xr), xt)]) w := by
  intro l hl
  rcases List.mem_append.1 hl with hl | hl
  · exact h l hl
  · obtain rfl := List.mem_singleton.1 hl; exact h2
abbrev prR (lz : List PR) : World → Prop := fun w => ∀ l ∈ lz, RoL w l.1.1.1 eInt l.1.2 ∧ RoL w l.2.1.1 eInt l.2.2
theorem prR_grow {lz : List PR} {a b : Option Addr} {c d : Nat} {xi xo : List Int} (w : World) (h : prR lz w ∧ Ro w a (xi.flatMap eInt)) (h2 : Ro w b (xo.flatMap eInt)) : prR (lz ++ [(((a, c), xi), ((b, d), xo))]) w := by
  intro l hl
  rcases List.mem_append.1 hl with hl | hl
  · exact h.1 l hl
  · obtain rfl := List.mem_singleton.1 hl; exact ⟨h.2, h2⟩
theorem horn_z {n : Int} {la : Option Addr} {lc : Nat} {lz : List CL} {w : World} {X : List (List Int × Int)} (hz : lz.map clP = X) (hL : RoCL w la lz) : Calls Try.prog 26 [.int .i64 n, .slice la lz.length lc].toArray w (RetR (hornP n X) w) := by
  subst hz; exact horn_c n la lc lz w hL
theorem memory_z {mi ni : Int} {la : Option Addr} {lc : Nat} {lz : List PR} {w : World} {X : List (List Int × List Int)} (hz : lz.map prP = X) (hL : RoPR w la lz) (hX : ∀ p ∈ X, p.1.length ≤ 1000000 ∧ p.2.length ≤ 1000000) : Calls Try.prog 28 [.int .i64 mi, .int .i64 ni, .slice la lz.length lc].toArray w (RetR (memP mi ni X) w) := by
  subst hz; exact memory_c mi ni la lc lz w hL (fun l hl => hX _ (List.mem_map_of_mem hl))
theorem clauses_c (n : Int) (la : Option Addr) (lc : Nat) (ls : List CL) (m kk : Int) (pa0 : Option Addr) (pc0 : Nat) (ps : List PR) (w : World) (hL : RoCL w la ls) (hcl : ∀ l ∈ ls, l.1.2.length ≤ l.1.1.2) (hP : RoPR w pa0 ps) (hcp : ∀ l ∈ ps, l.1.2.length ≤ l.1.1.2 ∧ l.2.2.length ≤ l.2.1.2) (hpl : ∀ l ∈ ps, l.1.2.length ≤ 17592186044416 ∧ l.2.2.length ≤ 17592186044416) : Calls Try.prog 4 [.int .i64 n, .slice la ls.length lc, .int .i64 m, .int .i64 kk, .slice pa0 ps.length pc0].toArray w fun e w' => e = .returned (.bool true) ∧ Sat w w' [] := by
  refine fstart Try.func4 rfl rfl (Sat.nil w) ?_
  refine Cd.seq ?_
  refine Cd.region ?_
  refine Ops.q (q_asg rfl) ?_
  refine Ops.to rfl ?_
  refine Cd.seq ?_
  refine Cd.seq ?_
  refine Cd.region ?_
  refine Ops.q (q_mv rfl) ?_
  refine Ops.q (q_len esz_50 rfl) ?_
  by_cases h1 : 60 < (ls.length : Int)
  · refine Ops.q (q_cmp rfl rfl (c_gt h1)) ?_
    refine Ops.q (q_mv rfl) ?_
    refine Ops.q (q_mv rfl) ?_
    refine Ops.q (q_len esz_50 rfl) ?_
    by_cases h2 : (ls.length : Int) ≤ 512
    · refine Ops.q (q_cmp rfl rfl (c_le h2)) ?_
      refine Ops.q (q_pickT rfl rfl) ?_
      refine Ops.q (q_mv rfl) ?_
      refine Ops.sk ?_
      refine Ops.sk ?_
      refine Ops.sk ?_
      refine Ops.q (q_pickT rfl rfl) ?_
      refine Ops.q (q_mv rfl) ?_
      refine Ops.sk ?_
      refine Ops.sk ?_
      refine Ops.sk ?_
      refine Ops.sk ?_
      refine Ops.sk ?_
      refine Ops.sk ?_
      refine Ops.sk ?_
      refine Ops.sk ?_
      refine Ops.q (q_pickT rfl rfl) ?_
      refine Ops.q (q_mv rfl) ?_
      refine Ops.sk ?_
      refine Ops.sk ?_
      refine Ops.sk ?_
      refine Ops.q (q_pickT rfl rfl) ?_
      refine Ops.to rfl ?_
      refine Cd.cond_t rfl ?_
      refine Cd.seq ?_
      refine Cd.region ?_
      refine Ops.cp en_13 rfl (fun w hs => works_c w) ?_
      refine Ops.q (q_asg rfl) ?_
      refine Ops.to rfl ?_
      refine Cd.rt (fn := Try.f4) [.bool true] (by with_reducible repeat (first | exact rq_here | apply rq_then | apply rq_block)) rfl ⟨rfl, trivial⟩ ?_
      intro w' hs'
      exact ⟨rfl, hs'.none⟩
    · refine Ops.q (q_cmp rfl rfl (c_nle (by omega))) ?_
      refine Ops.q (q_pickT rfl rfl) ?_
      refine Ops.q (q_mv rfl) ?_
      refine Ops.q (q_mv rfl) ?_
      refine Ops.q (q_len esz_50 rfl) ?_
      by_cases h3 : 520 < (ls.length : Int)
      · refine Ops.q (q_cmp rfl rfl (c_gt h3)) ?_
        refine Ops.q (q_pickF rfl rfl) ?_
        refine Ops.q (q_mv rfl) ?_
        refine Ops.sk ?_
        refine Ops.sk ?_
        refine Ops.sk ?_
        refine Ops.sk ?_
        refine Ops.sk ?_
        refine Ops.sk ?_
        refine Ops.sk ?_
        refine Ops.sk ?_
        refine Ops.q (q_pickT rfl rfl) ?_
        refine Ops.q (q_mv rfl) ?_
        refine Ops.sk ?_
        refine Ops.sk ?_
        refine Ops.sk ?_
        refine Ops.q (q_pickT rfl rfl) ?_
        refine Ops.to rfl ?_
        refine Cd.cond_t rfl ?_
        refine Cd.seq ?_
        refine Cd.region ?_
        refine Ops.cp en_13 rfl (fun w hs => works_c w) ?_
        refine Ops.q (q_asg rfl) ?_
        refine Ops.to rfl ?_
        refine Cd.rt (fn := Try.f4) [.bool true] (by with_reducible repeat (first | exact rq_here | apply rq_then | apply rq_block)) rfl ⟨rfl, trivial⟩ ?_
        intro w' hs'
        exact ⟨rfl, hs'.none⟩
      · refine Ops.q (q_cmp rfl rfl (c_ngt (by omega))) ?_
        refine Ops.q (q_pickF rfl rfl) ?_
        refine Ops.q (q_mv rfl) ?_
        refine Ops.q (q_mv rfl) ?_
        refine Ops.q (q_len esz_51 rfl) ?_
        by_cases h4 : 40 < (ps.length : Int)
        · refine Ops.q (q_cmp rfl rfl (c_gt h4)) ?_
          refine Ops.q (q_mv rfl) ?_
          refine Ops.q (q_mv rfl) ?_
          refine Ops.q (q_len esz_51 rfl) ?_
          by_cases h5 : (ps.length : Int) ≤ 256
          · refine Ops.q (q_cmp rfl rfl (c_le h5)) ?_
            refine Ops.q (q_pickT rfl rfl) ?_
            refine Ops.q (q_pickF rfl rfl) ?_
            refine Ops.q (q_mv rfl) ?_
            refine Ops.sk ?_
            refine Ops.sk ?_
            refine Ops.sk ?_
            refine Ops.q (q_pickT rfl rfl) ?_
            refine Ops.to rfl ?_
            refine Cd.cond_t rfl ?_
            refine Cd.seq ?_
            refine Cd.region ?_
            refine Ops.cp en_13 rfl (fun w hs => works_c w) ?_
            refine Ops.q (q_asg rfl) ?_
            refine Ops.to rfl ?_
            refine Cd.rt (fn := Try.f4) [.bool true] (by with_reducible repeat (first | exact rq_here | apply rq_then | apply rq_block)) rfl ⟨rfl, trivial⟩ ?_
            intro w' hs'
            exact ⟨rfl, hs'.none⟩
          · refine Ops.q (q_cmp rfl rfl (c_nle (by omega))) ?_
            refine Ops.q (q_pickT rfl rfl) ?_
            refine Ops.q (q_pickF rfl rfl) ?_
            refine Ops.q (q_mv rfl) ?_
            refine Ops.q (q_mv rfl) ?_
            refine Ops.q (q_len esz_51 rfl) ?_
            by_cases h6 : 260 < (ps.length : Int)
            · refine Ops.q (q_cmp rfl rfl (c_gt h6)) ?_
              refine Ops.q (q_pickF rfl rfl) ?_
              refine Ops.to rfl ?_
              refine Cd.cond_t rfl ?_
              refine Cd.seq ?_
              refine Cd.region ?_
              refine Ops.cp en_13 rfl (fun w hs => works_c w) ?_
              refine Ops.q (q_asg rfl) ?_
              refine Ops.to rfl ?_
              refine Cd.rt (fn := Try.f4) [.bool true] (by with_reducible repeat (first | exact rq_here | apply rq_then | apply rq_block)) rfl ⟨rfl, trivial⟩ ?_
              intro w' hs'
              exact ⟨rfl, hs'.none⟩
            · refine Ops.q (q_cmp rfl rfl (c_ngt (by omega))) ?_
              refine Ops.q (q_pickF rfl rfl) ?_
              refine Ops.to rfl ?_
              refine Cd.cond_f rfl ?_
              refine Cd.skipTo rfl ?_
              refine Cd.seq ?_
              refine Cd.region ?_
              refine Ops.q (q_asg rfl) ?_
              refine Ops.to rfl ?_
              refine Cd.seq ?_
              refine Cd.seq ?_
              refine Cd.region ?_
              refine Ops.q (q_asg rfl) ?_
              refine Ops.to rfl ?_
              refine Cd.block ?_
              refine Cd.lp (σ := Nat × List CL × Option Addr × Nat) (fun s => s.1 ≤ ls.length ∧ s.2.1.map clP = (ls.map clP).take s.1) (fun s => [(0, .int .i64 n), (1, .slice la ls.length lc), (2, .int .i64 m), (3, .int .i64 kk), (4, .slice pa0 ps.length pc0), (11, .slice s.2.2.1 s.2.1.length s.2.2.2), (12, .int .i64 (s.1 : Int))]) (fun s => [row s.2.2.1 s.2.2.2 55 2 s.2.1.length (s.2.1.flatMap eCl), rd (clR s.2.1)]) (fun s => ls.length - s.1) (0, [], none, 0) ⟨Nat.zero_le _, rfl⟩ ⟨rfl, rfl, rfl, rfl, rfl, rfl, rfl, trivial⟩ (fun _ hs => by have h1 := Sat.nilRow (rdNew (φ := clR []) (hs.none) (by intro w l hl; cases hl)) 55 2; exact h1) ?_
              rintro ⟨k, lz, qa, qc⟩ hI
              dsimp only at hI
              change Cd _ _ _ _ _ _ _ [(0, .int .i64 n), (1, .slice la ls.length lc), (2, .int .i64 m), (3, .int .i64 kk), (4, .slice pa0 ps.length pc0), (11, .slice qa lz.length qc), (12, .int .i64 (k : Int))] ([row qa qc 55 2 lz.length (lz.flatMap eCl), rd (clR lz)])
              have hI1 := hI.1
              have hlz : lz.length = k := by have := congrArg List.length hI.2; simp only [List.length_map, List.length_take] at this; omega
              refine Cd.seq ?_
              refine Cd.seq ?_
              refine Cd.region ?_
              refine Ops.q (q_mv rfl) ?_
              refine Ops.q (q_mv rfl) ?_
              refine Ops.q (q_len esz_50 rfl) ?_
              by_cases hk : (k : Int) < (ls.length : Int)
              · refine Ops.q (q_cmp rfl rfl (c_lt hk)) ?_
                obtain ⟨⟨⟨⟨xa, xc⟩, xr⟩, xt⟩, hx⟩ : ∃ x, ls[k]? = some x := ⟨_, List.getElem?_eq_getElem (by omega)⟩
                have hxe : RoL w xa eInt xr := hL.2 _ (List.mem_iff_getElem?.2 ⟨k, hx⟩)
                skip
                have hxq : (ls.map clP)[k]? = some (xr, xt) := by rw [List.getElem?_map, hx]; rfl
                obtain ⟨lb, lo, rfl⟩ := RoL.pos hL.1 eCl_len hx
                refine Ops.to rfl ?_
                refine Cd.cond_t rfl ?_
                refine Cd.skipTo rfl ?_
                refine Cd.seq ?_
                refine Cd.block ?_
                refine Cd.seq ?_
                refine Cd.seq ?_
                refine Cd.region ?_
                refine Ops.q (q_mv rfl) ?_
                refine Ops.q (q_mv rfl) ?_
                refine Ops.q (q_ix (k := k) esz_50 rfl rfl (by omega)) ?_
                refine Ops.q (q_fa fo_54_0 rfl) ?_
                refine Ops.q (q_ldR (v := .slice xa xr.length xc) isA_26 rfl (hL.1.at eCl_len hx rfl)) ?_
                refine Ops.q (q_len esz_26 rfl) ?_
                by_cases h7 : 20 < (xr.length : Int)
                · refine Ops.q (q_cmp rfl rfl (c_gt h7)) ?_
                  refine Ops.to rfl ?_
                  refine Cd.cond_t rfl ?_
                  refine Cd.seq ?_
                  refine Cd.region ?_
                  refine Ops.cp en_13 rfl (fun w hs => works_c w) ?_
                  refine Ops.q (q_asg rfl) ?_
                  refine Ops.to rfl ?_
                  refine Cd.rt (fn := Try.f4) [.bool true] (by with_reducible repeat (first | exact rq_here | apply rq_then | apply rq_block)) rfl ⟨rfl, trivial⟩ ?_
                  intro w' hs'
                  exact ⟨rfl, hs'.none⟩
                · refine Ops.q (q_cmp rfl rfl (c_ngt (by omega))) ?_
                  refine Ops.to rfl ?_
                  refine Cd.cond_f rfl ?_
                  refine Cd.skipTo rfl ?_
                  refine Cd.draw rfl (by kernel_rfl) .nil ?_
                  intro F8 St9 hP10 hF11 hR12
                  refine Dr.q (i := 0) hP10 rfl (by kernel_rfl) (q_mv rfl) ?_
                  refine Dr.q (i := 2) hP10 rfl (by kernel_rfl) (q_mv rfl) ?_
                  refine Dr.q (i := 3) hP10 rfl (by kernel_rfl) (q_mv rfl) ?_
                  refine Dr.q (i := 4) hP10 rfl (by kernel_rfl) (q_ix (k := k) esz_50 rfl rfl (by omega)) ?_
                  refine Dr.q (i := 5) hP10 rfl (by kernel_rfl) (q_fa fo_54_0 rfl) ?_
                  refine Dr.q (i := 6) hP10 rfl (by kernel_rfl) (q_ldR (v := .slice xa xr.length xc) isA_26 rfl (hL.1.at eCl_len hx rfl)) ?_
                  refine Dr.q (i := 8) hP10 rfl (by kernel_rfl) (q_mv rfl) ?_
                  refine Dr.q (i := 9) hP10 rfl (by kernel_rfl) (q_mv rfl) ?_
                  refine Dr.q (i := 10) hP10 rfl (by kernel_rfl) (q_ix (k := k) esz_50 rfl rfl (by omega)) ?_
                  refine Dr.q (i := 11) hP10 rfl (by kernel_rfl) (q_fa fo_54_1 rfl) ?_
                  refine Dr.q (i := 12) hP10 rfl (by kernel_rfl) (q_ldR (v := .int .i64 xt) isA_3 rfl (hL.1.at eCl_len hx rfl)) ?_
                  refine Dr.e (i := 1) rfl (by kernel_rfl) ?_
                  refine Ops.lit [] el_26 zsb_3 rfl rfl ⟨by decide, by decide⟩ rfl ?_
                  intro b13
                  refine Dr.back (fun _ hs => hF11 (.there .here) hs) ?_
                  refine Dr.e (i := 7) rfl (by kernel_rfl) ?_
                  refine Ops.app (news := (xr.flatMap eInt)) el_26 zsb_3 (by decide) rfl rfl (fun _ hs => hxe.later hs.below) (fun _ hs => hs) (fun _ _ => .here) (fm_length eInt_len xr) (fm_one eInt_one xr) (by omega) (by omega) ?_
                  intro a14 c15
                  refine Dr.back (fun _ hs => hF11 (.there .here) hs) ?_
                  refine Dr.q (i := 13) hP10 rfl (by kernel_rfl) (q_bld [.slice a14 (0 + xr.length) c15, .int .i64 xt] pls_55 zc_55 rfl rfl) ?_
                  refine Dr.e (i := 14) rfl (by kernel_rfl) ?_
                  refine Ops.lit [.slice a14 (0 + xr.length) c15, .int .i64 xt] el_52 zsb_55 rfl rfl ⟨by decide, by decide⟩ rfl ?_
                  intro b16
                  refine Dr.back (fun _ hs => hF11 (.there (.there .here)) hs) ?_
                  refine Dr.e (i := 15) rfl (by kernel_rfl) ?_
                  refine Ops.app (news := [.slice a14 (0 + xr.length) c15, .int .i64 xt]) el_52 zsb_55 (by decide) rfl rfl (fun _ hs => hs.ownRo .here) (fun _ hs => (hs.pull .here).drop) (fun _ _ => (.there (.there .here))) rfl (one rfl) (by omega) (by omega) ?_
                  intro a17 c18
                  refine Dr.back (fun _ hs => hF11 (.there .here) hs) ?_
                  refine Dr.tail 16 (by kernel_rfl) ?_
                  refine Ops.sat ?_ (fun _ hs => hR12 (.there .here) hs)
                  refine Ops.q (q_asg rfl) ?_
                  refine Ops.to rfl ?_
                  refine Cd.region ?_
                  refine Ops.q (q_mv rfl) ?_
                  refine Ops.q (q_ar rfl rfl (a_inc (by omega))) ?_
                  refine Ops.q (q_asg rfl) ?_
                  refine Ops.rnd ((k + 1, lz ++ [(((a14, c15), xr), xt)], a17, c18)) rfl (by dsimp only; exact (⟨by omega, by rw [List.map_append, hI.2, List.take_add_one, hxq]; rfl⟩)) (by dsimp only; omega) ⟨rfl, rfl, rfl, rfl, rfl, (by (try dsimp only); rw [List.length_append]; rfl), rfl, trivial⟩ (fun _ hs => by have h1 := (((hs.pull (.there .here)).pull (.there .here)).pull (.there (.there .here))); rw [Nat.zero_add] at h1; have h2 := rdGrow h1 (fun w p q => clR_grow (c := c15) (xt := xt) w p q); (try dsimp only); rw [fm_app, List.length_append]; exact h2.pull (.there .here)) 
              · refine Ops.q (q_cmp rfl rfl (c_nlt (by omega))) ?_
                have hz : lz.map clP = ls.map clP := by rw [hI.2, List.take_of_length_le (by rw [List.length_map]; omega)]
                refine Ops.to rfl ?_
                refine Cd.cond_f rfl ?_
                refine Cd.exitTo rfl ?_
                refine Cd.seq ?_
                refine Cd.region ?_
                refine Ops.q (q_mv rfl) ?_
                refine Ops.q (q_mv rfl) ?_
                refine Ops.cl (α := (Option Addr × Nat) × (Option Addr × Nat)) (v := fun x => .tuple #[.agg #[.slice x.1.1 (exN (hornP n (ls.map clP))).ns.length x.1.2, .int .i64 (exN (hornP n (ls.map clP))).inp, .slice x.2.1 (exN (hornP n (ls.map clP))).ss.length x.2.2], .int .i64 (errN (hornP n (ls.map clP)))]) (B := fun x => [row x.1.1 x.1.2 116 8 (exN (hornP n (ls.map clP))).ns.length ((exN (hornP n (ls.map clP))).ns.flatMap ePrm), row x.2.1 x.2.2 126 4 (exN (hornP n (ls.map clP))).ss.length ((exN (hornP n (ls.map clP))).ss.flatMap eSyn)]) en_26 rfl (fun w hs => retR_any (horn_z hz ⟨hs.ownRo .here, (hs.read (.there .here))⟩)) ?_
                rintro ⟨⟨p19, pc20⟩, ⟨q21, qc22⟩⟩
                refine Ops.q (q_mv rfl) ?_
                refine Ops.q (q_ext rfl rfl) ?_
                refine Ops.q (q_ext rfl rfl) ?_
                refine Ops.alc [.slice none 0 0, .int .i64 0, .slice none 0 0] zc_32 ?_
                intro b23
                refine Ops.stB [.slice p19 ((exN (hornP n (ls.map clP))).ns.length) pc20, .int .i64 ((exN (hornP n (ls.map clP))).inp), .slice q21 ((exN (hornP n (ls.map clP))).ss.length) qc22] [.slice p19 ((exN (hornP n (ls.map clP))).ns.length) pc20, .int .i64 ((exN (hornP n (ls.map clP))).inp), .slice q21 ((exN (hornP n (ls.map clP))).ss.length) qc22] sz_32 rfl rfl rfl (one rfl) .here rfl rfl ?_
                refine Ops.q (q_asg rfl) ?_
                refine Ops.to rfl ?_
                refine Cd.seq ?_
                refine Cd.region ?_
                refine Ops.q (q_mv rfl) ?_
                refine Ops.q (q_mv rfl) ?_
                refine Ops.cl (α := (Option Addr × Nat) × (Option Addr × Nat)) (v := fun x => .tuple #[.agg #[.slice x.1.1 (exN (hornP n (ls.map clP))).ns.length x.1.2, .int .i64 (exN (hornP n (ls.map clP))).inp, .slice x.2.1 (exN (hornP n (ls.map clP))).ss.length x.2.2], .int .i64 (errN (hornP n (ls.map clP)))]) (B := fun x => [row x.1.1 x.1.2 116 8 (exN (hornP n (ls.map clP))).ns.length ((exN (hornP n (ls.map clP))).ns.flatMap ePrm), row x.2.1 x.2.2 126 4 (exN (hornP n (ls.map clP))).ss.length ((exN (hornP n (ls.map clP))).ss.flatMap eSyn)]) en_27 rfl (fun w hs => retR_any (rhorn_c n _ _ ls w (hL.later hs.below) hcl)) ?_
                rintro ⟨⟨p24, pc25⟩, ⟨q26, qc27⟩⟩
                refine Ops.q (q_mv rfl) ?_
                refine Ops.q (q_ext rfl rfl) ?_
                refine Ops.q (q_ext rfl rfl) ?_
                refine Ops.alc [.slice none 0 0, .int .i64 0, .slice none 0 0] zc_32 ?_
                intro b28
                refine Ops.stB [.slice p24 ((exN (hornP n (ls.map clP))).ns.length) pc25, .int .i64 ((exN (hornP n (ls.map clP))).inp), .slice q26 ((exN (hornP n (ls.map clP))).ss.length) qc27] [.slice p24 ((exN (hornP n (ls.map clP))).ns.length) pc25, .int .i64 ((exN (hornP n (ls.map clP))).inp), .slice q26 ((exN (hornP n (ls.map clP))).ss.length) qc27] sz_32 rfl rfl rfl (one rfl) .here rfl rfl ?_
                refine Ops.q (q_asg rfl) ?_
                refine Ops.to rfl ?_
                refine Cd.seq ?_
                refine Cd.seq ?_
                refine Cd.region ?_
                refine Ops.q (q_ldBN [.slice p19 ((exN (hornP n (ls.map clP))).ns.length) pc20, .int .i64 ((exN (hornP n (ls.map clP))).inp), .slice q21 ((exN (hornP n (ls.map clP))).ss.length) qc22] isA_32 sz_32 rfl (.there (.there (.there .here))) rfl) ?_
                refine Ops.q (q_ldBN [.slice p24 ((exN (hornP n (ls.map clP))).ns.length) pc25, .int .i64 ((exN (hornP n (ls.map clP))).inp), .slice q26 ((exN (hornP n (ls.map clP))).ss.length) qc27] isA_32 sz_32 rfl .here rfl) ?_
                refine Ops.cp en_17 rfl (fun w hs => dT (nets_c _ _ _ _ _ _ _ _ (exN (hornP n (ls.map clP))).ns (exN (hornP n (ls.map clP))).ns ((exN (hornP n (ls.map clP))).inp) ((exN (hornP n (ls.map clP))).inp) (exN (hornP n (ls.map clP))).ss (exN (hornP n (ls.map clP))).ss w (hs.ownRo (.there (.there (.there (.there .here))))) (hs.ownRo (.there .here)) (hs.ownRo (.there (.there (.there (.there (.there .here)))))) (hs.ownRo (.there (.there .here))) (rowmax hs (.there (.there (.there (.there .here))))) (rowmax hs (.there (.there (.there (.there (.there .here))))))) ⟨rfl, rfl, rfl⟩) ?_
                refine Ops.q (q_not rfl) ?_
                refine Ops.q (q_mv rfl) ?_
                refine Ops.q (q_mv rfl) ?_
                refine Ops.q (q_mv rfl) ?_
                refine Ops.q (q_cmp rfl rfl (c_nne rfl)) ?_
                refine Ops.q (q_pickF rfl rfl) ?_
                refine Ops.to rfl ?_
                refine Cd.cond_f rfl ?_
                refine Cd.skipTo rfl ?_
                refine Cd.seq ?_
                refine Cd.region ?_
                refine Ops.q (q_asg rfl) ?_
                refine Ops.to rfl ?_
                refine Cd.seq ?_
                refine Cd.seq ?_
                refine Cd.region ?_
                refine Ops.q (q_asg rfl) ?_
                refine Ops.to rfl ?_
                refine Cd.block ?_
                refine Cd.lp (σ := Nat × List PR × Option Addr × Nat) (fun s => s.1 ≤ ps.length ∧ s.2.1.map prP = (ps.map prP).take s.1 ∧ ∀ y ∈ (ps.map prP).take s.1, y.1.length ≤ 70 ∧ y.2.length ≤ 70) (fun s => [(0, .int .i64 n), (1, .slice la ls.length lc), (2, .int .i64 m), (3, .int .i64 kk), (4, .slice pa0 ps.length pc0), (13, .pointer (some ⟨b23, 0, none⟩)), (15, .pointer (some ⟨b28, 0, none⟩)), (17, .slice s.2.2.1 s.2.1.length s.2.2.2), (18, .int .i64 (s.1 : Int))]) (fun s => [row s.2.2.1 s.2.2.2 61 2 s.2.1.length (s.2.1.flatMap ePr), rd (prR s.2.1), blk b28 32 [.slice p24 ((exN (hornP n (ls.map clP))).ns.length) pc25, .int .i64 ((exN (hornP n (ls.map clP))).inp), .slice q26 ((exN (hornP n (ls.map clP))).ss.length) qc27], blk b23 32 [.slice p19 ((exN (hornP n (ls.map clP))).ns.length) pc20, .int .i64 ((exN (hornP n (ls.map clP))).inp), .slice q21 ((exN (hornP n (ls.map clP))).ss.length) qc22]]) (fun s => ps.length - s.1) (0, [], none, 0) ⟨Nat.zero_le _, rfl, by simp⟩ ⟨rfl, rfl, rfl, rfl, rfl, rfl, rfl, rfl, rfl, trivial⟩ (fun _ hs => by have h1 := Sat.nilRow (rdNew (φ := prR []) (((((((((hs.pull (.there (.there (.there .here)))).pull (.there .here)).pull (.there (.there .here))).drop.pull (.there (.there .here))).drop.pull (.there (.there .here))).drop.pull (.there (.there .here))).drop.pull (.there (.there .here))).drop.pull (.there (.there .here))).drop) (by intro w l hl; cases hl)) 61 2; exact h1) ?_
                rintro ⟨k, pz, qa, qc⟩ hI
                dsimp only at hI
                change Cd _ _ _ _ _ _ _ [(0, .int .i64 n), (1, .slice la ls.length lc), (2, .int .i64 m), (3, .int .i64 kk), (4, .slice pa0 ps.length pc0), (13, .pointer (some ⟨b23, 0, none⟩)), (15, .pointer (some ⟨b28, 0, none⟩)), (17, .slice qa pz.length qc), (18, .int .i64 (k : Int))] ([row qa qc 61 2 pz.length (pz.flatMap ePr), rd (prR pz), blk b28 32 [.slice p24 ((exN (hornP n (ls.map clP))).ns.length) pc25, .int .i64 ((exN (hornP n (ls.map clP))).inp), .slice q26 ((exN (hornP n (ls.map clP))).ss.length) qc27], blk b23 32 [.slice p19 ((exN (hornP n (ls.map clP))).ns.length) pc20, .int .i64 ((exN (hornP n (ls.map clP))).inp), .slice q21 ((exN (hornP n (ls.map clP))).ss.length) qc22]])
                have hI1 := hI.1
                have hlz : pz.length = k := by have := congrArg List.length hI.2.1; simp only [List.length_map, List.length_take] at this; omega
                refine Cd.seq ?_
                refine Cd.seq ?_
                refine Cd.region ?_
                refine Ops.q (q_mv rfl) ?_
                refine Ops.q (q_mv rfl) ?_
                refine Ops.q (q_len esz_51 rfl) ?_
                by_cases hk : (k : Int) < (ps.length : Int)
                · refine Ops.q (q_cmp rfl rfl (c_lt hk)) ?_
                  obtain ⟨⟨⟨⟨ia, ic⟩, xi⟩, ⟨⟨oa, oc⟩, xo⟩⟩, hx⟩ : ∃ x, ps[k]? = some x := ⟨_, List.getElem?_eq_getElem (by omega)⟩
                  have hxm := List.mem_iff_getElem?.2 ⟨k, hx⟩
                  have hxe : RoL w ia eInt xi := (hP.2 _ hxm).1
                  have hxo : RoL w oa eInt xo := (hP.2 _ hxm).2
                  have hxl : xi.length ≤ 17592186044416 ∧ xo.length ≤ 17592186044416 := hpl _ hxm
                  have hxq : (ps.map prP)[k]? = some (xi, xo) := by rw [List.getElem?_map, hx]; rfl
                  obtain ⟨pb, po, rfl⟩ := RoL.pos hP.1 ePr_len hx
                  refine Ops.to rfl ?_
                  refine Cd.cond_t rfl ?_
                  refine Cd.skipTo rfl ?_
                  refine Cd.seq ?_
                  refine Cd.block ?_
                  refine Cd.seq ?_
                  refine Cd.seq ?_
                  refine Cd.draw rfl (by kernel_rfl) .nil ?_
                  intro F29 St30 hP31 hF32 hR33
                  refine Dr.q (i := 0) hP31 rfl (by kernel_rfl) (q_mv rfl) ?_
                  refine Dr.q (i := 1) hP31 rfl (by kernel_rfl) (q_mv rfl) ?_
                  refine Dr.q (i := 2) hP31 rfl (by kernel_rfl) (q_ix (k := k) esz_51 rfl rfl (by omega)) ?_
                  refine Dr.q (i := 3) hP31 rfl (by kernel_rfl) (q_fa fo_60_0 rfl) ?_
                  refine Dr.q (i := 4) hP31 rfl (by kernel_rfl) (q_ldR (v := .slice ia xi.length ic) isA_26 rfl (hP.1.at ePr_len hx rfl)) ?_
                  refine Dr.q (i := 5) hP31 rfl (by kernel_rfl) (q_len esz_26 rfl) ?_
                  refine Dr.q (i := 6) hP31 rfl (by kernel_rfl) (q_mv rfl) ?_
                  refine Dr.q (i := 7) hP31 rfl (by kernel_rfl) (q_mv rfl) ?_
                  refine Dr.q (i := 8) hP31 rfl (by kernel_rfl) (q_ix (k := k) esz_51 rfl rfl (by omega)) ?_
                  refine Dr.q (i := 9) hP31 rfl (by kernel_rfl) (q_fa fo_60_1 rfl) ?_
                  refine Dr.q (i := 10) hP31 rfl (by kernel_rfl) (q_ldR (v := .slice oa xo.length oc) isA_26 rfl (hP.1.at ePr_len hx rfl)) ?_
                  refine Dr.q (i := 11) hP31 rfl (by kernel_rfl) (q_len esz_26 rfl) ?_
                  refine Dr.q (i := 12) hP31 rfl (by kernel_rfl) (q_ar (v := (xi.length : Int) + (xo.length : Int)) rfl rfl (a_add (by omega))) ?_
                  by_cases h34 : 70 < (xi.length : Int) + (xo.length : Int)
                  · refine Dr.q (i := 13) hP31 rfl (by kernel_rfl) (q_cmp rfl rfl (c_gt h34)) ?_
                    refine Dr.tail 14 (by kernel_rfl) ?_
                    refine Ops.sat ?_ (fun _ hs => hR33 .here hs)
                    refine Ops.to rfl ?_
                    refine Cd.cond_t rfl ?_
                    refine Cd.seq ?_
                    refine Cd.region ?_
                    refine Ops.cp en_13 rfl (fun w hs => works_c w) ?_
                    refine Ops.q (q_asg rfl) ?_
                    refine Ops.to rfl ?_
                    refine Cd.rt (fn := Try.f4) [.bool true] (by with_reducible repeat (first | exact rq_here | apply rq_then | apply rq_block)) rfl ⟨rfl, trivial⟩ ?_
                    intro w' hs'
                    exact ⟨rfl, hs'.none⟩
                  · refine Dr.q (i := 13) hP31 rfl (by kernel_rfl) (q_cmp rfl rfl (c_ngt (by omega))) ?_
                    refine Dr.tail 14 (by kernel_rfl) ?_
                    refine Ops.sat ?_ (fun _ hs => hR33 .here hs)
                    refine Ops.to rfl ?_
                    refine Cd.cond_f rfl ?_
                    refine Cd.skipTo rfl ?_
                    refine Cd.draw rfl (by kernel_rfl) .nil ?_
                    intro F35 St36 hP37 hF38 hR39
                    refine Dr.q (i := 0) hP37 rfl (by kernel_rfl) (q_mv rfl) ?_
                    refine Dr.q (i := 2) hP37 rfl (by kernel_rfl) (q_mv rfl) ?_
                    refine Dr.q (i := 3) hP37 rfl (by kernel_rfl) (q_mv rfl) ?_
                    refine Dr.q (i := 4) hP37 rfl (by kernel_rfl) (q_ix (k := k) esz_51 rfl rfl (by omega)) ?_
                    refine Dr.q (i := 5) hP37 rfl (by kernel_rfl) (q_fa fo_60_0 rfl) ?_
                    refine Dr.q (i := 6) hP37 rfl (by kernel_rfl) (q_ldR (v := .slice ia xi.length ic) isA_26 rfl (hP.1.at ePr_len hx rfl)) ?_
                    refine Dr.q (i := 9) hP37 rfl (by kernel_rfl) (q_mv rfl) ?_
                    refine Dr.q (i := 10) hP37 rfl (by kernel_rfl) (q_mv rfl) ?_
                    refine Dr.q (i := 11) hP37 rfl (by kernel_rfl) (q_ix (k := k) esz_51 rfl rfl (by omega)) ?_
                    refine Dr.q (i := 12) hP37 rfl (by kernel_rfl) (q_fa fo_60_1 rfl) ?_
                    refine Dr.q (i := 13) hP37 rfl (by kernel_rfl) (q_ldR (v := .slice oa xo.length oc) isA_26 rfl (hP.1.at ePr_len hx rfl)) ?_
                    refine Dr.e2 (i := 1) (j := 8) rfl rfl (by kernel_rfl) ?_ ?_
                    · refine Ops.lit [] el_26 zsb_3 rfl rfl ⟨by decide, by decide⟩ rfl ?_
                      intro b40
                      refine Dr.back (fun _ hs => hF38 (.there .here) hs) ?_
                      refine Dr.e2 (i := 7) (j := 8) rfl rfl (by kernel_rfl) ?_ ?_
                      · refine Ops.app (news := (xi.flatMap eInt)) el_26 zsb_3 (by decide) rfl rfl (fun _ hs => hxe.later hs.below) (fun _ hs => hs) (fun _ _ => .here) (fm_length eInt_len xi) (fm_one eInt_one xi) (by omega) (by omega) ?_
                        intro a41 c42
                        refine Dr.back (fun _ hs => hF38 (.there .here) hs) ?_
                        refine Dr.e (i := 8) rfl (by kernel_rfl) ?_
                        refine Ops.lit [] el_26 zsb_3 rfl rfl ⟨by decide, by decide⟩ rfl ?_
                        intro b43
                        refine Dr.back (fun _ hs => hF38 (.there (.there .here)) hs) ?_
                        refine Dr.e (i := 14) rfl (by kernel_rfl) ?_
                        refine Ops.app (news := (xo.flatMap eInt)) el_26 zsb_3 (by decide) rfl rfl (fun _ hs => hxo.later hs.below) (fun _ hs => hs) (fun _ _ => .here) (fm_length eInt_len xo) (fm_one eInt_one xo) (by omega) (by omega) ?_
                        intro a44 c45
                        refine Dr.back (fun _ hs => hF38 (.there (.there .here)) hs) ?_
                        refine Dr.q (i := 15) hP37 rfl (by kernel_rfl) (q_bld [.slice a41 (0 + xi.length) c42, .slice a44 (0 + xo.length) c45] pls_61 zc_61 rfl rfl) ?_
                        refine Dr.e (i := 16) rfl (by kernel_rfl) ?_
                        refine Ops.lit [.slice a41 (0 + xi.length) c42, .slice a44 (0 + xo.length) c45] el_58 zsb_61 rfl rfl ⟨by decide, by decide⟩ rfl ?_
                        intro b46
                        refine Dr.back (fun _ hs => hF38 (.there (.there (.there .here))) hs) ?_
                        refine Dr.e (i := 17) rfl (by kernel_rfl) ?_
                        refine Ops.app (news := [.slice a41 (0 + xi.length) c42, .slice a44 (0 + xo.length) c45]) el_58 zsb_61 (by decide) rfl rfl (fun _ hs => hs.ownRo .here) (fun _ hs => (hs.pull .here).drop) (fun _ _ => (.there (.there (.there .here)))) rfl (one rfl) (by omega) (by omega) ?_
                        intro a47 c48
                        refine Dr.back (fun _ hs => hF38 (.there (.there .here)) hs) ?_
                        refine Dr.tail 18 (by kernel_rfl) ?_
                        refine Ops.sat ?_ (fun _ hs => hR39 (.there (.there .here)) hs)
                        refine Ops.q (q_asg rfl) ?_
                        refine Ops.to rfl ?_
                        refine Cd.region ?_
                        refine Ops.q (q_mv rfl) ?_
                        refine Ops.q (q_ar rfl rfl (a_inc (by omega))) ?_
                        refine Ops.q (q_asg rfl) ?_
                        refine Ops.rnd ((k + 1, pz ++ [(((a41, c42), xi), ((a44, c45), xo))], a47, c48)) rfl (by dsimp only; exact (⟨by omega, by rw [List.map_append, hI.2.1, List.take_add_one, hxq]; rfl, by intro y hy; rw [List.take_add_one, hxq] at hy; rcases List.mem_append.1 hy with hy | hy; exact hI.2.2 y hy; obtain rfl := List.mem_singleton.1 hy; dsimp only; omega⟩)) (by dsimp only; omega) ⟨rfl, rfl, rfl, rfl, rfl, rfl, rfl, (by (try dsimp only); rw [List.length_append]; rfl), rfl, trivial⟩ (fun _ hs => by have h1 := ((((((hs.pull (.there (.there (.there (.there (.there .here)))))).pull (.there (.there (.there (.there (.there .here)))))).pull (.there (.there (.there (.there .here))))).pull (.there (.there (.there .here)))).pull (.there (.there (.there (.there .here))))).pull (.there (.there (.there (.there (.there .here)))))); rw [Nat.zero_add, Nat.zero_add] at h1; have h2 := rdGrow (rdGrow (φ' := fun w => prR pz w ∧ Ro w a41 (xi.flatMap eInt)) h1 (fun w p q => ⟨p, q⟩)) (fun w p q => prR_grow (c := c42) (d := c45) w p q); (try dsimp only); rw [fm_app, List.length_append]; exact h2.pull (.there .here)) 
                      · refine Ops.lit [] el_26 zsb_3 rfl rfl ⟨by decide, by decide⟩ rfl ?_
                        intro b49
                        refine Dr.back (fun _ hs => hF38 (.there (.there .here)) hs) ?_
                        refine Dr.e (i := 7) rfl (by kernel_rfl) ?_
                        refine Ops.app (news := (xi.flatMap eInt)) el_26 zsb_3 (by decide) rfl rfl (fun _ hs => hxe.later hs.below) (fun _ hs => hs) (fun _ _ => (.there .here)) (fm_length eInt_len xi) (fm_one eInt_one xi) (by omega) (by omega) ?_
                        intro a50 c51
                        refine Dr.back (fun _ hs => hF38 (.there (.there .here)) hs) ?_
                        refine Dr.e (i := 14) rfl (by kernel_rfl) ?_
                        refine Ops.app (news := (xo.flatMap eInt)) el_26 zsb_3 (by decide) rfl rfl (fun _ hs => hxo.later hs.below) (fun _ hs => hs) (fun _ _ => .here) (fm_length eInt_len xo) (fm_one eInt_one xo) (by omega) (by omega) ?_
                        intro a52 c53
                        refine Dr.back (fun _ hs => hF38 (.there (.there .here)) hs) ?_
                        refine Dr.q (i := 15) hP37 rfl (by kernel_rfl) (q_bld [.slice a50 (0 + xi.length) c51, .slice a52 (0 + xo.length) c53] pls_61 zc_61 rfl rfl) ?_
                        refine Dr.e (i := 16) rfl (by kernel_rfl) ?_
                        refine Ops.lit [.slice a50 (0 + xi.length) c51, .slice a52 (0 + xo.length) c53] el_58 zsb_61 rfl rfl ⟨by decide, by decide⟩ rfl ?_
                        intro b54
                        refine Dr.back (fun _ hs => hF38 (.there (.there (.there .here))) hs) ?_
                        refine Dr.e (i := 17) rfl (by kernel_rfl) ?_
                        refine Ops.app (news := [.slice a50 (0 + xi.length) c51, .slice a52 (0 + xo.length) c53]) el_58 zsb_61 (by decide) rfl rfl (fun _ hs => hs.ownRo .here) (fun _ hs => (hs.pull .here).drop) (fun _ _ => (.there (.there (.there .here)))) rfl (one rfl) (by omega) (by omega) ?_
                        intro a55 c56
                        refine Dr.back (fun _ hs => hF38 (.there (.there .here)) hs) ?_
                        refine Dr.tail 18 (by kernel_rfl) ?_
                        refine Ops.sat ?_ (fun _ hs => hR39 (.there (.there .here)) hs)
                        refine Ops.q (q_asg rfl) ?_
                        refine Ops.to rfl ?_
                        refine Cd.region ?_
                        refine Ops.q (q_mv rfl) ?_
                        refine Ops.q (q_ar rfl rfl (a_inc (by omega))) ?_
                        refine Ops.q (q_asg rfl) ?_
                        refine Ops.rnd ((k + 1, pz ++ [(((a50, c51), xi), ((a52, c53), xo))], a55, c56)) rfl (by dsimp only; exact (⟨by omega, by rw [List.map_append, hI.2.1, List.take_add_one, hxq]; rfl, by intro y hy; rw [List.take_add_one, hxq] at hy; rcases List.mem_append.1 hy with hy | hy; exact hI.2.2 y hy; obtain rfl := List.mem_singleton.1 hy; dsimp only; omega⟩)) (by dsimp only; omega) ⟨rfl, rfl, rfl, rfl, rfl, rfl, rfl, (by (try dsimp only); rw [List.length_append]; rfl), rfl, trivial⟩ (fun _ hs => by have h1 := ((((((hs.pull (.there (.there (.there (.there (.there .here)))))).pull (.there (.there (.there (.there (.there .here)))))).pull (.there (.there (.there (.there .here))))).pull (.there (.there (.there .here)))).pull (.there (.there (.there (.there .here))))).pull (.there (.there (.there (.there (.there .here)))))); rw [Nat.zero_add, Nat.zero_add] at h1; have h2 := rdGrow (rdGrow (φ' := fun w => prR pz w ∧ Ro w a50 (xi.flatMap eInt)) h1 (fun w p q => ⟨p, q⟩)) (fun w p q => prR_grow (c := c51) (d := c53) w p q); (try dsimp only); rw [fm_app, List.length_append]; exact h2.pull (.there .here)) 
                    · refine Ops.lit [] el_26 zsb_3 rfl rfl ⟨by decide, by decide⟩ rfl ?_
                      intro b57
                      refine Dr.back (fun _ hs => hF38 (.there .here) hs) ?_
                      refine Dr.e (i := 1) rfl (by kernel_rfl) ?_
                      refine Ops.lit [] el_26 zsb_3 rfl rfl ⟨by decide, by decide⟩ rfl ?_
                      intro b58
                      refine Dr.back (fun _ hs => hF38 (.there (.there .here)) hs) ?_
                      refine Dr.e (i := 7) rfl (by kernel_rfl) ?_
                      refine Ops.app (news := (xi.flatMap eInt)) el_26 zsb_3 (by decide) rfl rfl (fun _ hs => hxe.later hs.below) (fun _ hs => hs) (fun _ _ => .here) (fm_length eInt_len xi) (fm_one eInt_one xi) (by omega) (by omega) ?_
                      intro a59 c60
                      refine Dr.back (fun _ hs => hF38 (.there (.there .here)) hs) ?_
                      refine Dr.e (i := 14) rfl (by kernel_rfl) ?_
                      refine Ops.app (news := (xo.flatMap eInt)) el_26 zsb_3 (by decide) rfl rfl (fun _ hs => hxo.later hs.below) (fun _ hs => hs) (fun _ _ => (.there .here)) (fm_length eInt_len xo) (fm_one eInt_one xo) (by omega) (by omega) ?_
                      intro a61 c62
                      refine Dr.back (fun _ hs => hF38 (.there (.there .here)) hs) ?_
                      refine Dr.q (i := 15) hP37 rfl (by kernel_rfl) (q_bld [.slice a59 (0 + xi.length) c60, .slice a61 (0 + xo.length) c62] pls_61 zc_61 rfl rfl) ?_
                      refine Dr.e (i := 16) rfl (by kernel_rfl) ?_
                      refine Ops.lit [.slice a59 (0 + xi.length) c60, .slice a61 (0 + xo.length) c62] el_58 zsb_61 rfl rfl ⟨by decide, by decide⟩ rfl ?_
                      intro b63
                      refine Dr.back (fun _ hs => hF38 (.there (.there (.there .here))) hs) ?_
                      refine Dr.e (i := 17) rfl (by kernel_rfl) ?_
                      refine Ops.app (news := [.slice a59 (0 + xi.length) c60, .slice a61 (0 + xo.length) c62]) el_58 zsb_61 (by decide) rfl rfl (fun _ hs => hs.ownRo .here) (fun _ hs => (hs.pull .here).drop) (fun _ _ => (.there (.there (.there .here)))) rfl (one rfl) (by omega) (by omega) ?_
                      intro a64 c65
                      refine Dr.back (fun _ hs => hF38 (.there (.there .here)) hs) ?_
                      refine Dr.tail 18 (by kernel_rfl) ?_
                      refine Ops.sat ?_ (fun _ hs => hR39 (.there (.there .here)) hs)
                      refine Ops.q (q_asg rfl) ?_
                      refine Ops.to rfl ?_
                      refine Cd.region ?_
                      refine Ops.q (q_mv rfl) ?_
                      refine Ops.q (q_ar rfl rfl (a_inc (by omega))) ?_
                      refine Ops.q (q_asg rfl) ?_
                      refine Ops.rnd ((k + 1, pz ++ [(((a59, c60), xi), ((a61, c62), xo))], a64, c65)) rfl (by dsimp only; exact (⟨by omega, by rw [List.map_append, hI.2.1, List.take_add_one, hxq]; rfl, by intro y hy; rw [List.take_add_one, hxq] at hy; rcases List.mem_append.1 hy with hy | hy; exact hI.2.2 y hy; obtain rfl := List.mem_singleton.1 hy; dsimp only; omega⟩)) (by dsimp only; omega) ⟨rfl, rfl, rfl, rfl, rfl, rfl, rfl, (by (try dsimp only); rw [List.length_append]; rfl), rfl, trivial⟩ (fun _ hs => by have h1 := ((((((hs.pull (.there (.there (.there (.there (.there .here)))))).pull (.there (.there (.there (.there (.there .here)))))).pull (.there (.there (.there (.there .here))))).pull (.there (.there (.there (.there .here))))).pull (.there (.there (.there (.there .here))))).pull (.there (.there (.there (.there (.there .here)))))); rw [Nat.zero_add, Nat.zero_add] at h1; have h2 := rdGrow (rdGrow (φ' := fun w => prR pz w ∧ Ro w a59 (xi.flatMap eInt)) h1 (fun w p q => ⟨p, q⟩)) (fun w p q => prR_grow (c := c60) (d := c62) w p q); (try dsimp only); rw [fm_app, List.length_append]; exact h2.pull (.there .here)) 
                · refine Ops.q (q_cmp rfl rfl (c_nlt (by omega))) ?_
                  have hz2 : pz.map prP = (ps.map prP) := by rw [hI.2.1, List.take_of_length_le (by rw [List.length_map]; omega)]
                  have h70 : ∀ y ∈ (ps.map prP), y.1.length ≤ 1000000 ∧ y.2.length ≤ 1000000 := by intro y hy; have := hI.2.2 y (by rw [List.take_of_length_le (by rw [List.length_map]; omega)]; exact hy); omega
                  have h70p : ∀ l ∈ ps, l.1.2.length ≤ 1000000 ∧ l.2.2.length ≤ 1000000 := fun l hl => h70 _ (List.mem_map_of_mem hl)
                  refine Ops.to rfl ?_
                  refine Cd.cond_f rfl ?_
                  refine Cd.exitTo rfl ?_
                  refine Cd.seq ?_
                  refine Cd.region ?_
                  refine Ops.q (q_mv rfl) ?_
                  refine Ops.q (q_mv rfl) ?_
                  refine Ops.q (q_mv rfl) ?_
                  refine Ops.cl (α := (Option Addr × Nat) × (Option Addr × Nat)) (v := fun x => .tuple #[.agg #[.slice x.1.1 (exN (memP m kk (ps.map prP))).ns.length x.1.2, .int .i64 (exN (memP m kk (ps.map prP))).inp, .slice x.2.1 (exN (memP m kk (ps.map prP))).ss.length x.2.2], .int .i64 (errN (memP m kk (ps.map prP)))]) (B := fun x => [row x.1.1 x.1.2 116 8 (exN (memP m kk (ps.map prP))).ns.length ((exN (memP m kk (ps.map prP))).ns.flatMap ePrm), row x.2.1 x.2.2 126 4 (exN (memP m kk (ps.map prP))).ss.length ((exN (memP m kk (ps.map prP))).ss.flatMap eSyn)]) en_28 rfl (fun w hs => retR_any (memory_z hz2 ⟨hs.ownRo .here, (hs.read (.there .here))⟩ h70)) ?_
                  rintro ⟨⟨p66, pc67⟩, ⟨q68, qc69⟩⟩
                  refine Ops.q (q_mv rfl) ?_
                  refine Ops.q (q_ext rfl rfl) ?_
                  refine Ops.q (q_ext rfl rfl) ?_
                  refine Ops.stB [.slice p66 ((exN (memP m kk (ps.map prP))).ns.length) pc67, .int .i64 ((exN (memP m kk (ps.map prP))).inp), .slice q68 ((exN (memP m kk (ps.map prP))).ss.length) qc69] [.slice p66 ((exN (memP m kk (ps.map prP))).ns.length) pc67, .int .i64 ((exN (memP m kk (ps.map prP))).inp), .slice q68 ((exN (memP m kk (ps.map prP))).ss.length) qc69] sz_32 rfl rfl rfl (one rfl) (.there (.there (.there (.there (.there .here))))) rfl rfl ?_
                  refine Ops.q (q_asg rfl) ?_
                  refine Ops.to rfl ?_
                  refine Cd.seq ?_
                  refine Cd.region ?_
                  refine Ops.q (q_mv rfl) ?_
                  refine Ops.q (q_mv rfl) ?_
                  refine Ops.q (q_mv rfl) ?_
                  refine Ops.cl (α := (Option Addr × Nat) × (Option Addr × Nat)) (v := fun x => .tuple #[.agg #[.slice x.1.1 (exN (memP m kk (ps.map prP))).ns.length x.1.2, .int .i64 (exN (memP m kk (ps.map prP))).inp, .slice x.2.1 (exN (memP m kk (ps.map prP))).ss.length x.2.2], .int .i64 (errN (memP m kk (ps.map prP)))]) (B := fun x => [row x.1.1 x.1.2 116 8 (exN (memP m kk (ps.map prP))).ns.length ((exN (memP m kk (ps.map prP))).ns.flatMap ePrm), row x.2.1 x.2.2 126 4 (exN (memP m kk (ps.map prP))).ss.length ((exN (memP m kk (ps.map prP))).ss.flatMap eSyn)]) en_29 rfl (fun w hs => retR_any (rmemory_c m kk _ _ ps w (hP.later hs.below) h70p hcp)) ?_
                  rintro ⟨⟨p70, pc71⟩, ⟨q72, qc73⟩⟩
                  refine Ops.q (q_mv rfl) ?_
                  refine Ops.q (q_ext rfl rfl) ?_
                  refine Ops.q (q_ext rfl rfl) ?_
                  refine Ops.stB [.slice p70 ((exN (memP m kk (ps.map prP))).ns.length) pc71, .int .i64 ((exN (memP m kk (ps.map prP))).inp), .slice q72 ((exN (memP m kk (ps.map prP))).ss.length) qc73] [.slice p70 ((exN (memP m kk (ps.map prP))).ns.length) pc71, .int .i64 ((exN (memP m kk (ps.map prP))).inp), .slice q72 ((exN (memP m kk (ps.map prP))).ss.length) qc73] sz_32 rfl rfl rfl (one rfl) (.there (.there (.there (.there (.there (.there .here)))))) rfl rfl ?_
                  refine Ops.q (q_asg rfl) ?_
                  refine Ops.to rfl ?_
                  refine Cd.seq ?_
                  refine Cd.region ?_
                  refine Ops.q (q_ldBN [.slice p66 ((exN (memP m kk (ps.map prP))).ns.length) pc67, .int .i64 ((exN (memP m kk (ps.map prP))).inp), .slice q68 ((exN (memP m kk (ps.map prP))).ss.length) qc69] isA_32 sz_32 rfl (.there (.there (.there (.there (.there (.there (.there .here))))))) rfl) ?_
                  refine Ops.q (q_ldBN [.slice p70 ((exN (memP m kk (ps.map prP))).ns.length) pc71, .int .i64 ((exN (memP m kk (ps.map prP))).inp), .slice q72 ((exN (memP m kk (ps.map prP))).ss.length) qc73] isA_32 sz_32 rfl (.there (.there (.there (.there (.there (.there .here)))))) rfl) ?_
                  refine Ops.cp en_17 rfl (fun w hs => dT (nets_c _ _ _ _ _ _ _ _ (exN (memP m kk (ps.map prP))).ns (exN (memP m kk (ps.map prP))).ns ((exN (memP m kk (ps.map prP))).inp) ((exN (memP m kk (ps.map prP))).inp) (exN (memP m kk (ps.map prP))).ss (exN (memP m kk (ps.map prP))).ss w (hs.ownRo (.there (.there .here))) (hs.ownRo .here) (hs.ownRo (.there (.there (.there .here)))) (hs.ownRo (.there .here)) (rowmax hs (.there (.there .here))) (rowmax hs (.there (.there (.there .here))))) ⟨rfl, rfl, rfl⟩) ?_
                  refine Ops.q (q_mv rfl) ?_
                  refine Ops.q (q_mv rfl) ?_
                  refine Ops.q (q_mv rfl) ?_
                  refine Ops.q (q_cmp rfl rfl (c_eq rfl)) ?_
                  refine Ops.q (q_pickT rfl rfl) ?_
                  refine Ops.q (q_mv rfl) ?_
                  refine Ops.cp en_13 rfl (fun w hs => works_c w) ?_
                  refine Ops.q (q_pickT rfl rfl) ?_
                  refine Ops.q (q_asg rfl) ?_
                  refine Ops.to rfl ?_
                  refine Cd.rt (fn := Try.f4) [.bool true] (by with_reducible repeat (first | exact rq_here | apply rq_then | apply rq_block)) rfl ⟨rfl, trivial⟩ ?_
                  intro w' hs'
                  exact ⟨rfl, hs'.none⟩
        · refine Ops.q (q_cmp rfl rfl (c_ngt (by omega))) ?_
          refine Ops.q (q_mv rfl) ?_
          refine Ops.sk ?_
          refine Ops.sk ?_
          refine Ops.sk ?_
          refine Ops.q (q_pickF rfl rfl) ?_
          refine Ops.q (q_pickF rfl rfl) ?_
          refine Ops.q (q_mv rfl) ?_
          refine Ops.q (q_mv rfl) ?_
          refine Ops.q (q_len esz_51 rfl) ?_
          by_cases h74 : 260 < (ps.length : Int)
          · refine Ops.q (q_cmp rfl rfl (c_gt h74)) ?_
            refine Ops.q (q_pickF rfl rfl) ?_
            refine Ops.to rfl ?_
            refine Cd.cond_t rfl ?_
            refine Cd.seq ?_
            refine Cd.region ?_
            refine Ops.cp en_13 rfl (fun w hs => works_c w) ?_
            refine Ops.q (q_asg rfl) ?_
            refine Ops.to rfl ?_
            refine Cd.rt (fn := Try.f4) [.bool true] (by with_reducible repeat (first | exact rq_here | apply rq_then | apply rq_block)) rfl ⟨rfl, trivial⟩ ?_
            intro w' hs'
            exact ⟨rfl, hs'.none⟩
          · refine Ops.q (q_cmp rfl rfl (c_ngt (by omega))) ?_
            refine Ops.q (q_pickF rfl rfl) ?_
            refine Ops.to rfl ?_
            refine Cd.cond_f rfl ?_
            refine Cd.skipTo rfl ?_
            refine Cd.seq ?_
            refine Cd.region ?_
            refine Ops.q (q_asg rfl) ?_
            refine Ops.to rfl ?_
            refine Cd.seq ?_
            refine Cd.seq ?_
            refine Cd.region ?_
            refine Ops.q (q_asg rfl) ?_
            refine Ops.to rfl ?_
            refine Cd.block ?_
            refine Cd.lp (σ := Nat × List CL × Option Addr × Nat) (fun s => s.1 ≤ ls.length ∧ s.2.1.map clP = (ls.map clP).take s.1) (fun s => [(0, .int .i64 n), (1, .slice la ls.length lc), (2, .int .i64 m), (3, .int .i64 kk), (4, .slice pa0 ps.length pc0), (11, .slice s.2.2.1 s.2.1.length s.2.2.2), (12, .int .i64 (s.1 : Int))]) (fun s => [row s.2.2.1 s.2.2.2 55 2 s.2.1.length (s.2.1.flatMap eCl), rd (clR s.2.1)]) (fun s => ls.length - s.1) (0, [], none, 0) ⟨Nat.zero_le _, rfl⟩ ⟨rfl, rfl, rfl, rfl, rfl, rfl, rfl, trivial⟩ (fun _ hs => by have h1 := Sat.nilRow (rdNew (φ := clR []) (hs.none) (by intro w l hl; cases hl)) 55 2; exact h1) ?_
            rintro ⟨k, lz, qa, qc⟩ hI
            dsimp only at hI
            change Cd _ _ _ _ _ _ _ [(0, .int .i64 n), (1, .slice la ls.length lc), (2, .int .i64 m), (3, .int .i64 kk), (4, .slice pa0 ps.length pc0), (11, .slice qa lz.length qc), (12, .int .i64 (k : Int))] ([row qa qc 55 2 lz.length (lz.flatMap eCl), rd (clR lz)])
            have hI1 := hI.1
            have hlz : lz.length = k := by have := congrArg List.length hI.2; simp only [List.length_map, List.length_take] at this; omega
            refine Cd.seq ?_
            refine Cd.seq ?_
            refine Cd.region ?_
            refine Ops.q (q_mv rfl) ?_
            refine Ops.q (q_mv rfl) ?_
            refine Ops.q (q_len esz_50 rfl) ?_
            by_cases hk : (k : Int) < (ls.length : Int)
            · refine Ops.q (q_cmp rfl rfl (c_lt hk)) ?_
              obtain ⟨⟨⟨⟨xa, xc⟩, xr⟩, xt⟩, hx⟩ : ∃ x, ls[k]? = some x := ⟨_, List.getElem?_eq_getElem (by omega)⟩
              have hxe : RoL w xa eInt xr := hL.2 _ (List.mem_iff_getElem?.2 ⟨k, hx⟩)
              skip
              have hxq : (ls.map clP)[k]? = some (xr, xt) := by rw [List.getElem?_map, hx]; rfl
              obtain ⟨lb, lo, rfl⟩ := RoL.pos hL.1 eCl_len hx
              refine Ops.to rfl ?_
              refine Cd.cond_t rfl ?_
              refine Cd.skipTo rfl ?_
              refine Cd.seq ?_
              refine Cd.block ?_
              refine Cd.seq ?_
              refine Cd.seq ?_
              refine Cd.region ?_
              refine Ops.q (q_mv rfl) ?_
              refine Ops.q (q_mv rfl) ?_
              refine Ops.q (q_ix (k := k) esz_50 rfl rfl (by omega)) ?_
              refine Ops.q (q_fa fo_54_0 rfl) ?_
              refine Ops.q (q_ldR (v := .slice xa xr.length xc) isA_26 rfl (hL.1.at eCl_len hx rfl)) ?_
              refine Ops.q (q_len esz_26 rfl) ?_
              by_cases h75 : 20 < (xr.length : Int)
              · refine Ops.q (q_cmp rfl rfl (c_gt h75)) ?_
                refine Ops.to rfl ?_
                refine Cd.cond_t rfl ?_
                refine Cd.seq ?_
                refine Cd.region ?_
                refine Ops.cp en_13 rfl (fun w hs => works_c w) ?_
                refine Ops.q (q_asg rfl) ?_
                refine Ops.to rfl ?_
                refine Cd.rt (fn := Try.f4) [.bool true] (by with_reducible repeat (first | exact rq_here | apply rq_then | apply rq_block)) rfl ⟨rfl, trivial⟩ ?_
                intro w' hs'
                exact ⟨rfl, hs'.none⟩
              · refine Ops.q (q_cmp rfl rfl (c_ngt (by omega))) ?_
                refine Ops.to rfl ?_
                refine Cd.cond_f rfl ?_
                refine Cd.skipTo rfl ?_
                refine Cd.draw rfl (by kernel_rfl) .nil ?_
                intro F76 St77 hP78 hF79 hR80
                refine Dr.q (i := 0) hP78 rfl (by kernel_rfl) (q_mv rfl) ?_
                refine Dr.q (i := 2) hP78 rfl (by kernel_rfl) (q_mv rfl) ?_
                refine Dr.q (i := 3) hP78 rfl (by kernel_rfl) (q_mv rfl) ?_
                refine Dr.q (i := 4) hP78 rfl (by kernel_rfl) (q_ix (k := k) esz_50 rfl rfl (by omega)) ?_
                refine Dr.q (i := 5) hP78 rfl (by kernel_rfl) (q_fa fo_54_0 rfl) ?_
                refine Dr.q (i := 6) hP78 rfl (by kernel_rfl) (q_ldR (v := .slice xa xr.length xc) isA_26 rfl (hL.1.at eCl_len hx rfl)) ?_
                refine Dr.q (i := 8) hP78 rfl (by kernel_rfl) (q_mv rfl) ?_
                refine Dr.q (i := 9) hP78 rfl (by kernel_rfl) (q_mv rfl) ?_
                refine Dr.q (i := 10) hP78 rfl (by kernel_rfl) (q_ix (k := k) esz_50 rfl rfl (by omega)) ?_
                refine Dr.q (i := 11) hP78 rfl (by kernel_rfl) (q_fa fo_54_1 rfl) ?_
                refine Dr.q (i := 12) hP78 rfl (by kernel_rfl) (q_ldR (v := .int .i64 xt) isA_3 rfl (hL.1.at eCl_len hx rfl)) ?_
                refine Dr.e (i := 1) rfl (by kernel_rfl) ?_
                refine Ops.lit [] el_26 zsb_3 rfl rfl ⟨by decide, by decide⟩ rfl ?_
                intro b81
                refine Dr.back (fun _ hs => hF79 (.there .here) hs) ?_
                refine Dr.e (i := 7) rfl (by kernel_rfl) ?_
                refine Ops.app (news := (xr.flatMap eInt)) el_26 zsb_3 (by decide) rfl rfl (fun _ hs => hxe.later hs.below) (fun _ hs => hs) (fun _ _ => .here) (fm_length eInt_len xr) (fm_one eInt_one xr) (by omega) (by omega) ?_
                intro a82 c83
                refine Dr.back (fun _ hs => hF79 (.there .here) hs) ?_
                refine Dr.q (i := 13) hP78 rfl (by kernel_rfl) (q_bld [.slice a82 (0 + xr.length) c83, .int .i64 xt] pls_55 zc_55 rfl rfl) ?_
                refine Dr.e (i := 14) rfl (by kernel_rfl) ?_
                refine Ops.lit [.slice a82 (0 + xr.length) c83, .int .i64 xt] el_52 zsb_55 rfl rfl ⟨by decide, by decide⟩ rfl ?_
                intro b84
                refine Dr.back (fun _ hs => hF79 (.there (.there .here)) hs) ?_
                refine Dr.e (i := 15) rfl (by kernel_rfl) ?_
                refine Ops.app (news := [.slice a82 (0 + xr.length) c83, .int .i64 xt]) el_52 zsb_55 (by decide) rfl rfl (fun _ hs => hs.ownRo .here) (fun _ hs => (hs.pull .here).drop) (fun _ _ => (.there (.there .here))) rfl (one rfl) (by omega) (by omega) ?_
                intro a85 c86
                refine Dr.back (fun _ hs => hF79 (.there .here) hs) ?_
                refine Dr.tail 16 (by kernel_rfl) ?_
                refine Ops.sat ?_ (fun _ hs => hR80 (.there .here) hs)
                refine Ops.q (q_asg rfl) ?_
                refine Ops.to rfl ?_
                refine Cd.region ?_
                refine Ops.q (q_mv rfl) ?_
                refine Ops.q (q_ar rfl rfl (a_inc (by omega))) ?_
                refine Ops.q (q_asg rfl) ?_
                refine Ops.rnd ((k + 1, lz ++ [(((a82, c83), xr), xt)], a85, c86)) rfl (by dsimp only; exact (⟨by omega, by rw [List.map_append, hI.2, List.take_add_one, hxq]; rfl⟩)) (by dsimp only; omega) ⟨rfl, rfl, rfl, rfl, rfl, (by (try dsimp only); rw [List.length_append]; rfl), rfl, trivial⟩ (fun _ hs => by have h1 := (((hs.pull (.there .here)).pull (.there .here)).pull (.there (.there .here))); rw [Nat.zero_add] at h1; have h2 := rdGrow h1 (fun w p q => clR_grow (c := c83) (xt := xt) w p q); (try dsimp only); rw [fm_app, List.length_append]; exact h2.pull (.there .here)) 
            · refine Ops.q (q_cmp rfl rfl (c_nlt (by omega))) ?_
              have hz : lz.map clP = ls.map clP := by rw [hI.2, List.take_of_length_le (by rw [List.length_map]; omega)]
              refine Ops.to rfl ?_
              refine Cd.cond_f rfl ?_
              refine Cd.exitTo rfl ?_
              refine Cd.seq ?_
              refine Cd.region ?_
              refine Ops.q (q_mv rfl) ?_
              refine Ops.q (q_mv rfl) ?_
              refine Ops.cl (α := (Option Addr × Nat) × (Option Addr × Nat)) (v := fun x => .tuple #[.agg #[.slice x.1.1 (exN (hornP n (ls.map clP))).ns.length x.1.2, .int .i64 (exN (hornP n (ls.map clP))).inp, .slice x.2.1 (exN (hornP n (ls.map clP))).ss.length x.2.2], .int .i64 (errN (hornP n (ls.map clP)))]) (B := fun x => [row x.1.1 x.1.2 116 8 (exN (hornP n (ls.map clP))).ns.length ((exN (hornP n (ls.map clP))).ns.flatMap ePrm), row x.2.1 x.2.2 126 4 (exN (hornP n (ls.map clP))).ss.length ((exN (hornP n (ls.map clP))).ss.flatMap eSyn)]) en_26 rfl (fun w hs => retR_any (horn_z hz ⟨hs.ownRo .here, (hs.read (.there .here))⟩)) ?_
              rintro ⟨⟨p87, pc88⟩, ⟨q89, qc90⟩⟩
              refine Ops.q (q_mv rfl) ?_
              refine Ops.q (q_ext rfl rfl) ?_
              refine Ops.q (q_ext rfl rfl) ?_
              refine Ops.alc [.slice none 0 0, .int .i64 0, .slice none 0 0] zc_32 ?_
              intro b91
              refine Ops.stB [.slice p87 ((exN (hornP n (ls.map clP))).ns.length) pc88, .int .i64 ((exN (hornP n (ls.map clP))).inp), .slice q89 ((exN (hornP n (ls.map clP))).ss.length) qc90] [.slice p87 ((exN (hornP n (ls.map clP))).ns.length) pc88, .int .i64 ((exN (hornP n (ls.map clP))).inp), .slice q89 ((exN (hornP n (ls.map clP))).ss.length) qc90] sz_32 rfl rfl rfl (one rfl) .here rfl rfl ?_
              refine Ops.q (q_asg rfl) ?_
              refine Ops.to rfl ?_
              refine Cd.seq ?_
              refine Cd.region ?_
              refine Ops.q (q_mv rfl) ?_
              refine Ops.q (q_mv rfl) ?_
              refine Ops.cl (α := (Option Addr × Nat) × (Option Addr × Nat)) (v := fun x => .tuple #[.agg #[.slice x.1.1 (exN (hornP n (ls.map clP))).ns.length x.1.2, .int .i64 (exN (hornP n (ls.map clP))).inp, .slice x.2.1 (exN (hornP n (ls.map clP))).ss.length x.2.2], .int .i64 (errN (hornP n (ls.map clP)))]) (B := fun x => [row x.1.1 x.1.2 116 8 (exN (hornP n (ls.map clP))).ns.length ((exN (hornP n (ls.map clP))).ns.flatMap ePrm), row x.2.1 x.2.2 126 4 (exN (hornP n (ls.map clP))).ss.length ((exN (hornP n (ls.map clP))).ss.flatMap eSyn)]) en_27 rfl (fun w hs => retR_any (rhorn_c n _ _ ls w (hL.later hs.below) hcl)) ?_
              rintro ⟨⟨p92, pc93⟩, ⟨q94, qc95⟩⟩
              refine Ops.q (q_mv rfl) ?_
              refine Ops.q (q_ext rfl rfl) ?_
              refine Ops.q (q_ext rfl rfl) ?_
              refine Ops.alc [.slice none 0 0, .int .i64 0, .slice none 0 0] zc_32 ?_
              intro b96
              refine Ops.stB [.slice p92 ((exN (hornP n (ls.map clP))).ns.length) pc93, .int .i64 ((exN (hornP n (ls.map clP))).inp), .slice q94 ((exN (hornP n (ls.map clP))).ss.length) qc95] [.slice p92 ((exN (hornP n (ls.map clP))).ns.length) pc93, .int .i64 ((exN (hornP n (ls.map clP))).inp), .slice q94 ((exN (hornP n (ls.map clP))).ss.length) qc95] sz_32 rfl rfl rfl (one rfl) .here rfl rfl ?_
              refine Ops.q (q_asg rfl) ?_
              refine Ops.to rfl ?_
              refine Cd.seq ?_
              refine Cd.seq ?_
              refine Cd.region ?_
              refine Ops.q (q_ldBN [.slice p87 ((exN (hornP n (ls.map clP))).ns.length) pc88, .int .i64 ((exN (hornP n (ls.map clP))).inp), .slice q89 ((exN (hornP n (ls.map clP))).ss.length) qc90] isA_32 sz_32 rfl (.there (.there (.there .here))) rfl) ?_
              refine Ops.q (q_ldBN [.slice p92 ((exN (hornP n (ls.map clP))).ns.length) pc93, .int .i64 ((exN (hornP n (ls.map clP))).inp), .slice q94 ((exN (hornP n (ls.map clP))).ss.length) qc95] isA_32 sz_32 rfl .here rfl) ?_
              refine Ops.cp en_17 rfl (fun w hs => dT (nets_c _ _ _ _ _ _ _ _ (exN (hornP n (ls.map clP))).ns (exN (hornP n (ls.map clP))).ns ((exN (hornP n (ls.map clP))).inp) ((exN (hornP n (ls.map clP))).inp) (exN (hornP n (ls.map clP))).ss (exN (hornP n (ls.map clP))).ss w (hs.ownRo (.there (.there (.there (.there .here))))) (hs.ownRo (.there .here)) (hs.ownRo (.there (.there (.there (.there (.there .here)))))) (hs.ownRo (.there (.there .here))) (rowmax hs (.there (.there (.there (.there .here))))) (rowmax hs (.there (.there (.there (.there (.there .here))))))) ⟨rfl, rfl, rfl⟩) ?_
              refine Ops.q (q_not rfl) ?_
              refine Ops.q (q_mv rfl) ?_
              refine Ops.q (q_mv rfl) ?_
              refine Ops.q (q_mv rfl) ?_
              refine Ops.q (q_cmp rfl rfl (c_nne rfl)) ?_
              refine Ops.q (q_pickF rfl rfl) ?_
              refine Ops.to rfl ?_
              refine Cd.cond_f rfl ?_
              refine Cd.skipTo rfl ?_
              refine Cd.seq ?_
              refine Cd.region ?_
              refine Ops.q (q_asg rfl) ?_
              refine Ops.to rfl ?_
              refine Cd.seq ?_
              refine Cd.seq ?_
              refine Cd.region ?_
              refine Ops.q (q_asg rfl) ?_
              refine Ops.to rfl ?_
              refine Cd.block ?_
              refine Cd.lp (σ := Nat × List PR × Option Addr × Nat) (fun s => s.1 ≤ ps.length ∧ s.2.1.map prP = (ps.map prP).take s.1 ∧ ∀ y ∈ (ps.map prP).take s.1, y.1.length ≤ 70 ∧ y.2.length ≤ 70) (fun s => [(0, .int .i64 n), (1, .slice la ls.length lc), (2, .int .i64 m), (3, .int .i64 kk), (4, .slice pa0 ps.length pc0), (13, .pointer (some ⟨b91, 0, none⟩)), (15, .pointer (some ⟨b96, 0, none⟩)), (17, .slice s.2.2.1 s.2.1.length s.2.2.2), (18, .int .i64 (s.1 : Int))]) (fun s => [row s.2.2.1 s.2.2.2 61 2 s.2.1.length (s.2.1.flatMap ePr), rd (prR s.2.1), blk b96 32 [.slice p92 ((exN (hornP n (ls.map clP))).ns.length) pc93, .int .i64 ((exN (hornP n (ls.map clP))).inp), .slice q94 ((exN (hornP n (ls.map clP))).ss.length) qc95], blk b91 32 [.slice p87 ((exN (hornP n (ls.map clP))).ns.length) pc88, .int .i64 ((exN (hornP n (ls.map clP))).inp), .slice q89 ((exN (hornP n (ls.map clP))).ss.length) qc90]]) (fun s => ps.length - s.1) (0, [], none, 0) ⟨Nat.zero_le _, rfl, by simp⟩ ⟨rfl, rfl, rfl, rfl, rfl, rfl, rfl, rfl, rfl, trivial⟩ (fun _ hs => by have h1 := Sat.nilRow (rdNew (φ := prR []) (((((((((hs.pull (.there (.there (.there .here)))).pull (.there .here)).pull (.there (.there .here))).drop.pull (.there (.there .here))).drop.pull (.there (.there .here))).drop.pull (.there (.there .here))).drop.pull (.there (.there .here))).drop.pull (.there (.there .here))).drop) (by intro w l hl; cases hl)) 61 2; exact h1) ?_
              rintro ⟨k, pz, qa, qc⟩ hI
              dsimp only at hI
              change Cd _ _ _ _ _ _ _ [(0, .int .i64 n), (1, .slice la ls.length lc), (2, .int .i64 m), (3, .int .i64 kk), (4, .slice pa0 ps.length pc0), (13, .pointer (some ⟨b91, 0, none⟩)), (15, .pointer (some ⟨b96, 0, none⟩)), (17, .slice qa pz.length qc), (18, .int .i64 (k : Int))] ([row qa qc 61 2 pz.length (pz.flatMap ePr), rd (prR pz), blk b96 32 [.slice p92 ((exN (hornP n (ls.map clP))).ns.length) pc93, .int .i64 ((exN (hornP n (ls.map clP))).inp), .slice q94 ((exN (hornP n (ls.map clP))).ss.length) qc95], blk b91 32 [.slice p87 ((exN (hornP n (ls.map clP))).ns.length) pc88, .int .i64 ((exN (hornP n (ls.map clP))).inp), .slice q89 ((exN (hornP n (ls.map clP))).ss.length) qc90]])
              have hI1 := hI.1
              have hlz : pz.length = k := by have := congrArg List.length hI.2.1; simp only [List.length_map, List.length_take] at this; omega
              refine Cd.seq ?_
              refine Cd.seq ?_
              refine Cd.region ?_
              refine Ops.q (q_mv rfl) ?_
              refine Ops.q (q_mv rfl) ?_
              refine Ops.q (q_len esz_51 rfl) ?_
              by_cases hk : (k : Int) < (ps.length : Int)
              · refine Ops.q (q_cmp rfl rfl (c_lt hk)) ?_
                obtain ⟨⟨⟨⟨ia, ic⟩, xi⟩, ⟨⟨oa, oc⟩, xo⟩⟩, hx⟩ : ∃ x, ps[k]? = some x := ⟨_, List.getElem?_eq_getElem (by omega)⟩
                have hxm := List.mem_iff_getElem?.2 ⟨k, hx⟩
                have hxe : RoL w ia eInt xi := (hP.2 _ hxm).1
                have hxo : RoL w oa eInt xo := (hP.2 _ hxm).2
                have hxl : xi.length ≤ 17592186044416 ∧ xo.length ≤ 17592186044416 := hpl _ hxm
                have hxq : (ps.map prP)[k]? = some (xi, xo) := by rw [List.getElem?_map, hx]; rfl
                obtain ⟨pb, po, rfl⟩ := RoL.pos hP.1 ePr_len hx
                refine Ops.to rfl ?_
                refine Cd.cond_t rfl ?_
                refine Cd.skipTo rfl ?_
                refine Cd.seq ?_
                refine Cd.block ?_
                refine Cd.seq ?_
                refine Cd.seq ?_
                refine Cd.draw rfl (by kernel_rfl) .nil ?_
                intro F97 St98 hP99 hF100 hR101
                refine Dr.q (i := 0) hP99 rfl (by kernel_rfl) (q_mv rfl) ?_
                refine Dr.q (i := 1) hP99 rfl (by kernel_rfl) (q_mv rfl) ?_
                refine Dr.q (i := 2) hP99 rfl (by kernel_rfl) (q_ix (k := k) esz_51 rfl rfl (by omega)) ?_
                refine Dr.q (i := 3) hP99 rfl (by kernel_rfl) (q_fa fo_60_0 rfl) ?_
                refine Dr.q (i := 4) hP99 rfl (by kernel_rfl) (q_ldR (v := .slice ia xi.length ic) isA_26 rfl (hP.1.at ePr_len hx rfl)) ?_
                refine Dr.q (i := 5) hP99 rfl (by kernel_rfl) (q_len esz_26 rfl) ?_
                refine Dr.q (i := 6) hP99 rfl (by kernel_rfl) (q_mv rfl) ?_
                refine Dr.q (i := 7) hP99 rfl (by kernel_rfl) (q_mv rfl) ?_
                refine Dr.q (i := 8) hP99 rfl (by kernel_rfl) (q_ix (k := k) esz_51 rfl rfl (by omega)) ?_
                refine Dr.q (i := 9) hP99 rfl (by kernel_rfl) (q_fa fo_60_1 rfl) ?_
                refine Dr.q (i := 10) hP99 rfl (by kernel_rfl) (q_ldR (v := .slice oa xo.length oc) isA_26 rfl (hP.1.at ePr_len hx rfl)) ?_
                refine Dr.q (i := 11) hP99 rfl (by kernel_rfl) (q_len esz_26 rfl) ?_
                refine Dr.q (i := 12) hP99 rfl (by kernel_rfl) (q_ar (v := (xi.length : Int) + (xo.length : Int)) rfl rfl (a_add (by omega))) ?_
                by_cases h102 : 70 < (xi.length : Int) + (xo.length : Int)
                · refine Dr.q (i := 13) hP99 rfl (by kernel_rfl) (q_cmp rfl rfl (c_gt h102)) ?_
                  refine Dr.tail 14 (by kernel_rfl) ?_
                  refine Ops.sat ?_ (fun _ hs => hR101 .here hs)
                  refine Ops.to rfl ?_
                  refine Cd.cond_t rfl ?_
                  refine Cd.seq ?_
                  refine Cd.region ?_
                  refine Ops.cp en_13 rfl (fun w hs => works_c w) ?_
                  refine Ops.q (q_asg rfl) ?_
                  refine Ops.to rfl ?_
                  refine Cd.rt (fn := Try.f4) [.bool true] (by with_reducible repeat (first | exact rq_here | apply rq_then | apply rq_block)) rfl ⟨rfl, trivial⟩ ?_
                  intro w' hs'
                  exact ⟨rfl, hs'.none⟩
                · refine Dr.q (i := 13) hP99 rfl (by kernel_rfl) (q_cmp rfl rfl (c_ngt (by omega))) ?_
                  refine Dr.tail 14 (by kernel_rfl) ?_
                  refine Ops.sat ?_ (fun _ hs => hR101 .here hs)
                  refine Ops.to rfl ?_
                  refine Cd.cond_f rfl ?_
                  refine Cd.skipTo rfl ?_
                  refine Cd.draw rfl (by kernel_rfl) .nil ?_
                  intro F103 St104 hP105 hF106 hR107
                  refine Dr.q (i := 0) hP105 rfl (by kernel_rfl) (q_mv rfl) ?_
                  refine Dr.q (i := 2) hP105 rfl (by kernel_rfl) (q_mv rfl) ?_
                  refine Dr.q (i := 3) hP105 rfl (by kernel_rfl) (q_mv rfl) ?_
                  refine Dr.q (i := 4) hP105 rfl (by kernel_rfl) (q_ix (k := k) esz_51 rfl rfl (by omega)) ?_
                  refine Dr.q (i := 5) hP105 rfl (by kernel_rfl) (q_fa fo_60_0 rfl) ?_
                  refine Dr.q (i := 6) hP105 rfl (by kernel_rfl) (q_ldR (v := .slice ia xi.length ic) isA_26 rfl (hP.1.at ePr_len hx rfl)) ?_
                  refine Dr.q (i := 9) hP105 rfl (by kernel_rfl) (q_mv rfl) ?_
                  refine Dr.q (i := 10) hP105 rfl (by kernel_rfl) (q_mv rfl) ?_
                  refine Dr.q (i := 11) hP105 rfl (by kernel_rfl) (q_ix (k := k) esz_51 rfl rfl (by omega)) ?_
                  refine Dr.q (i := 12) hP105 rfl (by kernel_rfl) (q_fa fo_60_1 rfl) ?_
                  refine Dr.q (i := 13) hP105 rfl (by kernel_rfl) (q_ldR (v := .slice oa xo.length oc) isA_26 rfl (hP.1.at ePr_len hx rfl)) ?_
                  refine Dr.e2 (i := 1) (j := 8) rfl rfl (by kernel_rfl) ?_ ?_
                  · refine Ops.lit [] el_26 zsb_3 rfl rfl ⟨by decide, by decide⟩ rfl ?_
                    intro b108
                    refine Dr.back (fun _ hs => hF106 (.there .here) hs) ?_
                    refine Dr.e2 (i := 7) (j := 8) rfl rfl (by kernel_rfl) ?_ ?_
                    · refine Ops.app (news := (xi.flatMap eInt)) el_26 zsb_3 (by decide) rfl rfl (fun _ hs => hxe.later hs.below) (fun _ hs => hs) (fun _ _ => .here) (fm_length eInt_len xi) (fm_one eInt_one xi) (by omega) (by omega) ?_
                      intro a109 c110
                      refine Dr.back (fun _ hs => hF106 (.there .here) hs) ?_
                      refine Dr.e (i := 8) rfl (by kernel_rfl) ?_
                      refine Ops.lit [] el_26 zsb_3 rfl rfl ⟨by decide, by decide⟩ rfl ?_
                      intro b111
                      refine Dr.back (fun _ hs => hF106 (.there (.there .here)) hs) ?_
                      refine Dr.e (i := 14) rfl (by kernel_rfl) ?_
                      refine Ops.app (news := (xo.flatMap eInt)) el_26 zsb_3 (by decide) rfl rfl (fun _ hs => hxo.later hs.below) (fun _ hs => hs) (fun _ _ => .here) (fm_length eInt_len xo) (fm_one eInt_one xo) (by omega) (by omega) ?_
                      intro a112 c113
                      refine Dr.back (fun _ hs => hF106 (.there (.there .here)) hs) ?_
                      refine Dr.q (i := 15) hP105 rfl (by kernel_rfl) (q_bld [.slice a109 (0 + xi.length) c110, .slice a112 (0 + xo.length) c113] pls_61 zc_61 rfl rfl) ?_
                      refine Dr.e (i := 16) rfl (by kernel_rfl) ?_
                      refine Ops.lit [.slice a109 (0 + xi.length) c110, .slice a112 (0 + xo.length) c113] el_58 zsb_61 rfl rfl ⟨by decide, by decide⟩ rfl ?_
                      intro b114
                      refine Dr.back (fun _ hs => hF106 (.there (.there (.there .here))) hs) ?_
                      refine Dr.e (i := 17) rfl (by kernel_rfl) ?_
                      refine Ops.app (news := [.slice a109 (0 + xi.length) c110, .slice a112 (0 + xo.length) c113]) el_58 zsb_61 (by decide) rfl rfl (fun _ hs => hs.ownRo .here) (fun _ hs => (hs.pull .here).drop) (fun _ _ => (.there (.there (.there .here)))) rfl (one rfl) (by omega) (by omega) ?_
                      intro a115 c116
                      refine Dr.back (fun _ hs => hF106 (.there (.there .here)) hs) ?_
                      refine Dr.tail 18 (by kernel_rfl) ?_
                      refine Ops.sat ?_ (fun _ hs => hR107 (.there (.there .here)) hs)
                      refine Ops.q (q_asg rfl) ?_
                      refine Ops.to rfl ?_
                      refine Cd.region ?_
                      refine Ops.q (q_mv rfl) ?_
                      refine Ops.q (q_ar rfl rfl (a_inc (by omega))) ?_
                      refine Ops.q (q_asg rfl) ?_
                      refine Ops.rnd ((k + 1, pz ++ [(((a109, c110), xi), ((a112, c113), xo))], a115, c116)) rfl (by dsimp only; exact (⟨by omega, by rw [List.map_append, hI.2.1, List.take_add_one, hxq]; rfl, by intro y hy; rw [List.take_add_one, hxq] at hy; rcases List.mem_append.1 hy with hy | hy; exact hI.2.2 y hy; obtain rfl := List.mem_singleton.1 hy; dsimp only; omega⟩)) (by dsimp only; omega) ⟨rfl, rfl, rfl, rfl, rfl, rfl, rfl, (by (try dsimp only); rw [List.length_append]; rfl), rfl, trivial⟩ (fun _ hs => by have h1 := ((((((hs.pull (.there (.there (.there (.there (.there .here)))))).pull (.there (.there (.there (.there (.there .here)))))).pull (.there (.there (.there (.there .here))))).pull (.there (.there (.there .here)))).pull (.there (.there (.there (.there .here))))).pull (.there (.there (.there (.there (.there .here)))))); rw [Nat.zero_add, Nat.zero_add] at h1; have h2 := rdGrow (rdGrow (φ' := fun w => prR pz w ∧ Ro w a109 (xi.flatMap eInt)) h1 (fun w p q => ⟨p, q⟩)) (fun w p q => prR_grow (c := c110) (d := c113) w p q); (try dsimp only); rw [fm_app, List.length_append]; exact h2.pull (.there .here)) 
                    · refine Ops.lit [] el_26 zsb_3 rfl rfl ⟨by decide, by decide⟩ rfl ?_
                      intro b117
                      refine Dr.back (fun _ hs => hF106 (.there (.there .here)) hs) ?_
                      refine Dr.e (i := 7) rfl (by kernel_rfl) ?_
                      refine Ops.app (news := (xi.flatMap eInt)) el_26 zsb_3 (by decide) rfl rfl (fun _ hs => hxe.later hs.below) (fun _ hs => hs) (fun _ _ => (.there .here)) (fm_length eInt_len xi) (fm_one eInt_one xi) (by omega) (by omega) ?_
                      intro a118 c119
                      refine Dr.back (fun _ hs => hF106 (.there (.there .here)) hs) ?_
                      refine Dr.e (i := 14) rfl (by kernel_rfl) ?_
                      refine Ops.app (news := (xo.flatMap eInt)) el_26 zsb_3 (by decide) rfl rfl (fun _ hs => hxo.later hs.below) (fun _ hs => hs) (fun _ _ => .here) (fm_length eInt_len xo) (fm_one eInt_one xo) (by omega) (by omega) ?_
                      intro a120 c121
                      refine Dr.back (fun _ hs => hF106 (.there (.there .here)) hs) ?_
                      refine Dr.q (i := 15) hP105 rfl (by kernel_rfl) (q_bld [.slice a118 (0 + xi.length) c119, .slice a120 (0 + xo.length) c121] pls_61 zc_61 rfl rfl) ?_
                      refine Dr.e (i := 16) rfl (by kernel_rfl) ?_
                      refine Ops.lit [.slice a118 (0 + xi.length) c119, .slice a120 (0 + xo.length) c121] el_58 zsb_61 rfl rfl ⟨by decide, by decide⟩ rfl ?_
                      intro b122
                      refine Dr.back (fun _ hs => hF106 (.there (.there (.there .here))) hs) ?_
                      refine Dr.e (i := 17) rfl (by kernel_rfl) ?_
                      refine Ops.app (news := [.slice a118 (0 + xi.length) c119, .slice a120 (0 + xo.length) c121]) el_58 zsb_61 (by decide) rfl rfl (fun _ hs => hs.ownRo .here) (fun _ hs => (hs.pull .here).drop) (fun _ _ => (.there (.there (.there .here)))) rfl (one rfl) (by omega) (by omega) ?_
                      intro a123 c124
                      refine Dr.back (fun _ hs => hF106 (.there (.there .here)) hs) ?_
                      refine Dr.tail 18 (by kernel_rfl) ?_
                      refine Ops.sat ?_ (fun _ hs => hR107 (.there (.there .here)) hs)
                      refine Ops.q (q_asg rfl) ?_
                      refine Ops.to rfl ?_
                      refine Cd.region ?_
                      refine Ops.q (q_mv rfl) ?_
                      refine Ops.q (q_ar rfl rfl (a_inc (by omega))) ?_
                      refine Ops.q (q_asg rfl) ?_
                      refine Ops.rnd ((k + 1, pz ++ [(((a118, c119), xi), ((a120, c121), xo))], a123, c124)) rfl (by dsimp only; exact (⟨by omega, by rw [List.map_append, hI.2.1, List.take_add_one, hxq]; rfl, by intro y hy; rw [List.take_add_one, hxq] at hy; rcases List.mem_append.1 hy with hy | hy; exact hI.2.2 y hy; obtain rfl := List.mem_singleton.1 hy; dsimp only; omega⟩)) (by dsimp only; omega) ⟨rfl, rfl, rfl, rfl, rfl, rfl, rfl, (by (try dsimp only); rw [List.length_append]; rfl), rfl, trivial⟩ (fun _ hs => by have h1 := ((((((hs.pull (.there (.there (.there (.there (.there .here)))))).pull (.there (.there (.there (.there (.there .here)))))).pull (.there (.there (.there (.there .here))))).pull (.there (.there (.there .here)))).pull (.there (.there (.there (.there .here))))).pull (.there (.there (.there (.there (.there .here)))))); rw [Nat.zero_add, Nat.zero_add] at h1; have h2 := rdGrow (rdGrow (φ' := fun w => prR pz w ∧ Ro w a118 (xi.flatMap eInt)) h1 (fun w p q => ⟨p, q⟩)) (fun w p q => prR_grow (c := c119) (d := c121) w p q); (try dsimp only); rw [fm_app, List.length_append]; exact h2.pull (.there .here)) 
                  · refine Ops.lit [] el_26 zsb_3 rfl rfl ⟨by decide, by decide⟩ rfl ?_
                    intro b125
                    refine Dr.back (fun _ hs => hF106 (.there .here) hs) ?_
                    refine Dr.e (i := 1) rfl (by kernel_rfl) ?_
                    refine Ops.lit [] el_26 zsb_3 rfl rfl ⟨by decide, by decide⟩ rfl ?_
                    intro b126
                    refine Dr.back (fun _ hs => hF106 (.there (.there .here)) hs) ?_
                    refine Dr.e (i := 7) rfl (by kernel_rfl) ?_
                    refine Ops.app (news := (xi.flatMap eInt)) el_26 zsb_3 (by decide) rfl rfl (fun _ hs => hxe.later hs.below) (fun _ hs => hs) (fun _ _ => .here) (fm_length eInt_len xi) (fm_one eInt_one xi) (by omega) (by omega) ?_
                    intro a127 c128
                    refine Dr.back (fun _ hs => hF106 (.there (.there .here)) hs) ?_
                    refine Dr.e (i := 14) rfl (by kernel_rfl) ?_
                    refine Ops.app (news := (xo.flatMap eInt)) el_26 zsb_3 (by decide) rfl rfl (fun _ hs => hxo.later hs.below) (fun _ hs => hs) (fun _ _ => (.there .here)) (fm_length eInt_len xo) (fm_one eInt_one xo) (by omega) (by omega) ?_
                    intro a129 c130
                    refine Dr.back (fun _ hs => hF106 (.there (.there .here)) hs) ?_
                    refine Dr.q (i := 15) hP105 rfl (by kernel_rfl) (q_bld [.slice a127 (0 + xi.length) c128, .slice a129 (0 + xo.length) c130] pls_61 zc_61 rfl rfl) ?_
                    refine Dr.e (i := 16) rfl (by kernel_rfl) ?_
                    refine Ops.lit [.slice a127 (0 + xi.length) c128, .slice a129 (0 + xo.length) c130] el_58 zsb_61 rfl rfl ⟨by decide, by decide⟩ rfl ?_
                    intro b131
                    refine Dr.back (fun _ hs => hF106 (.there (.there (.there .here))) hs) ?_
                    refine Dr.e (i := 17) rfl (by kernel_rfl) ?_
                    refine Ops.app (news := [.slice a127 (0 + xi.length) c128, .slice a129 (0 + xo.length) c130]) el_58 zsb_61 (by decide) rfl rfl (fun _ hs => hs.ownRo .here) (fun _ hs => (hs.pull .here).drop) (fun _ _ => (.there (.there (.there .here)))) rfl (one rfl) (by omega) (by omega) ?_
                    intro a132 c133
                    refine Dr.back (fun _ hs => hF106 (.there (.there .here)) hs) ?_
                    refine Dr.tail 18 (by kernel_rfl) ?_
                    refine Ops.sat ?_ (fun _ hs => hR107 (.there (.there .here)) hs)
                    refine Ops.q (q_asg rfl) ?_
                    refine Ops.to rfl ?_
                    refine Cd.region ?_
                    refine Ops.q (q_mv rfl) ?_
                    refine Ops.q (q_ar rfl rfl (a_inc (by omega))) ?_
                    refine Ops.q (q_asg rfl) ?_
                    refine Ops.rnd ((k + 1, pz ++ [(((a127, c128), xi), ((a129, c130), xo))], a132, c133)) rfl (by dsimp only; exact (⟨by omega, by rw [List.map_append, hI.2.1, List.take_add_one, hxq]; rfl, by intro y hy; rw [List.take_add_one, hxq] at hy; rcases List.mem_append.1 hy with hy | hy; exact hI.2.2 y hy; obtain rfl := List.mem_singleton.1 hy; dsimp only; omega⟩)) (by dsimp only; omega) ⟨rfl, rfl, rfl, rfl, rfl, rfl, rfl, (by (try dsimp only); rw [List.length_append]; rfl), rfl, trivial⟩ (fun _ hs => by have h1 := ((((((hs.pull (.there (.there (.there (.there (.there .here)))))).pull (.there (.there (.there (.there (.there .here)))))).pull (.there (.there (.there (.there .here))))).pull (.there (.there (.there (.there .here))))).pull (.there (.there (.there (.there .here))))).pull (.there (.there (.there (.there (.there .here)))))); rw [Nat.zero_add, Nat.zero_add] at h1; have h2 := rdGrow (rdGrow (φ' := fun w => prR pz w ∧ Ro w a127 (xi.flatMap eInt)) h1 (fun w p q => ⟨p, q⟩)) (fun w p q => prR_grow (c := c128) (d := c130) w p q); (try dsimp only); rw [fm_app, List.length_append]; exact h2.pull (.there .here)) 
              · refine Ops.q (q_cmp rfl rfl (c_nlt (by omega))) ?_
                have hz2 : pz.map prP = (ps.map prP) := by rw [hI.2.1, List.take_of_length_le (by rw [List.length_map]; omega)]
                have h70 : ∀ y ∈ (ps.map prP), y.1.length ≤ 1000000 ∧ y.2.length ≤ 1000000 := by intro y hy; have := hI.2.2 y (by rw [List.take_of_length_le (by rw [List.length_map]; omega)]; exact hy); omega
                have h70p : ∀ l ∈ ps, l.1.2.length ≤ 1000000 ∧ l.2.2.length ≤ 1000000 := fun l hl => h70 _ (List.mem_map_of_mem hl)
                refine Ops.to rfl ?_
                refine Cd.cond_f rfl ?_
                refine Cd.exitTo rfl ?_
                refine Cd.seq ?_
                refine Cd.region ?_
                refine Ops.q (q_mv rfl) ?_
                refine Ops.q (q_mv rfl) ?_
                refine Ops.q (q_mv rfl) ?_
                refine Ops.cl (α := (Option Addr × Nat) × (Option Addr × Nat)) (v := fun x => .tuple #[.agg #[.slice x.1.1 (exN (memP m kk (ps.map prP))).ns.length x.1.2, .int .i64 (exN (memP m kk (ps.map prP))).inp, .slice x.2.1 (exN (memP m kk (ps.map prP))).ss.length x.2.2], .int .i64 (errN (memP m kk (ps.map prP)))]) (B := fun x => [row x.1.1 x.1.2 116 8 (exN (memP m kk (ps.map prP))).ns.length ((exN (memP m kk (ps.map prP))).ns.flatMap ePrm), row x.2.1 x.2.2 126 4 (exN (memP m kk (ps.map prP))).ss.length ((exN (memP m kk (ps.map prP))).ss.flatMap eSyn)]) en_28 rfl (fun w hs => retR_any (memory_z hz2 ⟨hs.ownRo .here, (hs.read (.there .here))⟩ h70)) ?_
                rintro ⟨⟨p134, pc135⟩, ⟨q136, qc137⟩⟩
                refine Ops.q (q_mv rfl) ?_
                refine Ops.q (q_ext rfl rfl) ?_
                refine Ops.q (q_ext rfl rfl) ?_
                refine Ops.stB [.slice p134 ((exN (memP m kk (ps.map prP))).ns.length) pc135, .int .i64 ((exN (memP m kk (ps.map prP))).inp), .slice q136 ((exN (memP m kk (ps.map prP))).ss.length) qc137] [.slice p134 ((exN (memP m kk (ps.map prP))).ns.length) pc135, .int .i64 ((exN (memP m kk (ps.map prP))).inp), .slice q136 ((exN (memP m kk (ps.map prP))).ss.length) qc137] sz_32 rfl rfl rfl (one rfl) (.there (.there (.there (.there (.there .here))))) rfl rfl ?_
                refine Ops.q (q_asg rfl) ?_
                refine Ops.to rfl ?_
                refine Cd.seq ?_
                refine Cd.region ?_
                refine Ops.q (q_mv rfl) ?_
                refine Ops.q (q_mv rfl) ?_
                refine Ops.q (q_mv rfl) ?_
                refine Ops.cl (α := (Option Addr × Nat) × (Option Addr × Nat)) (v := fun x => .tuple #[.agg #[.slice x.1.1 (exN (memP m kk (ps.map prP))).ns.length x.1.2, .int .i64 (exN (memP m kk (ps.map prP))).inp, .slice x.2.1 (exN (memP m kk (ps.map prP))).ss.length x.2.2], .int .i64 (errN (memP m kk (ps.map prP)))]) (B := fun x => [row x.1.1 x.1.2 116 8 (exN (memP m kk (ps.map prP))).ns.length ((exN (memP m kk (ps.map prP))).ns.flatMap ePrm), row x.2.1 x.2.2 126 4 (exN (memP m kk (ps.map prP))).ss.length ((exN (memP m kk (ps.map prP))).ss.flatMap eSyn)]) en_29 rfl (fun w hs => retR_any (rmemory_c m kk _ _ ps w (hP.later hs.below) h70p hcp)) ?_
                rintro ⟨⟨p138, pc139⟩, ⟨q140, qc141⟩⟩
                refine Ops.q (q_mv rfl) ?_
                refine Ops.q (q_ext rfl rfl) ?_
                refine Ops.q (q_ext rfl rfl) ?_
                refine Ops.stB [.slice p138 ((exN (memP m kk (ps.map prP))).ns.length) pc139, .int .i64 ((exN (memP m kk (ps.map prP))).inp), .slice q140 ((exN (memP m kk (ps.map prP))).ss.length) qc141] [.slice p138 ((exN (memP m kk (ps.map prP))).ns.length) pc139, .int .i64 ((exN (memP m kk (ps.map prP))).inp), .slice q140 ((exN (memP m kk (ps.map prP))).ss.length) qc141] sz_32 rfl rfl rfl (one rfl) (.there (.there (.there (.there (.there (.there .here)))))) rfl rfl ?_
                refine Ops.q (q_asg rfl) ?_
                refine Ops.to rfl ?_
                refine Cd.seq ?_
                refine Cd.region ?_
                refine Ops.q (q_ldBN [.slice p134 ((exN (memP m kk (ps.map prP))).ns.length) pc135, .int .i64 ((exN (memP m kk (ps.map prP))).inp), .slice q136 ((exN (memP m kk (ps.map prP))).ss.length) qc137] isA_32 sz_32 rfl (.there (.there (.there (.there (.there (.there (.there .here))))))) rfl) ?_
                refine Ops.q (q_ldBN [.slice p138 ((exN (memP m kk (ps.map prP))).ns.length) pc139, .int .i64 ((exN (memP m kk (ps.map prP))).inp), .slice q140 ((exN (memP m kk (ps.map prP))).ss.length) qc141] isA_32 sz_32 rfl (.there (.there (.there (.there (.there (.there .here)))))) rfl) ?_
                refine Ops.cp en_17 rfl (fun w hs => dT (nets_c _ _ _ _ _ _ _ _ (exN (memP m kk (ps.map prP))).ns (exN (memP m kk (ps.map prP))).ns ((exN (memP m kk (ps.map prP))).inp) ((exN (memP m kk (ps.map prP))).inp) (exN (memP m kk (ps.map prP))).ss (exN (memP m kk (ps.map prP))).ss w (hs.ownRo (.there (.there .here))) (hs.ownRo .here) (hs.ownRo (.there (.there (.there .here)))) (hs.ownRo (.there .here)) (rowmax hs (.there (.there .here))) (rowmax hs (.there (.there (.there .here))))) ⟨rfl, rfl, rfl⟩) ?_
                refine Ops.q (q_mv rfl) ?_
                refine Ops.q (q_mv rfl) ?_
                refine Ops.q (q_mv rfl) ?_
                refine Ops.q (q_cmp rfl rfl (c_eq rfl)) ?_
                refine Ops.q (q_pickT rfl rfl) ?_
                refine Ops.q (q_mv rfl) ?_
                refine Ops.cp en_13 rfl (fun w hs => works_c w) ?_
                refine Ops.q (q_pickT rfl rfl) ?_
                refine Ops.q (q_asg rfl) ?_
                refine Ops.to rfl ?_
                refine Cd.rt (fn := Try.f4) [.bool true] (by with_reducible repeat (first | exact rq_here | apply rq_then | apply rq_block)) rfl ⟨rfl, trivial⟩ ?_
                intro w' hs'
                exact ⟨rfl, hs'.none⟩
  · refine Ops.q (q_cmp rfl rfl (c_ngt (by omega))) ?_
    refine Ops.q (q_mv rfl) ?_
    refine Ops.sk ?_
    refine Ops.sk ?_
    refine Ops.sk ?_
    refine Ops.q (q_pickF rfl rfl) ?_
    refine Ops.q (q_mv rfl) ?_
    refine Ops.q (q_mv rfl) ?_
    refine Ops.q (q_len esz_50 rfl) ?_
    by_cases h142 : 520 < (ls.length : Int)
    · refine Ops.q (q_cmp rfl rfl (c_gt h142)) ?_
      refine Ops.q (q_pickF rfl rfl) ?_
      refine Ops.q (q_mv rfl) ?_
      refine Ops.sk ?_
      refine Ops.sk ?_
      refine Ops.sk ?_
      refine Ops.sk ?_
      refine Ops.sk ?_
      refine Ops.sk ?_
      refine Ops.sk ?_
      refine Ops.sk ?_
      refine Ops.q (q_pickT rfl rfl) ?_
      refine Ops.q (q_mv rfl) ?_
      refine Ops.sk ?_
      refine Ops.sk ?_
      refine Ops.sk ?_
      refine Ops.q (q_pickT rfl rfl) ?_
      refine Ops.to rfl ?_
      refine Cd.cond_t rfl ?_
      refine Cd.seq ?_
      refine Cd.region ?_
      refine Ops.cp en_13 rfl (fun w hs => works_c w) ?_
      refine Ops.q (q_asg rfl) ?_
      refine Ops.to rfl ?_
      refine Cd.rt (fn := Try.f4) [.bool true] (by with_reducible repeat (first | exact rq_here | apply rq_then | apply rq_block)) rfl ⟨rfl, trivial⟩ ?_
      intro w' hs'
      exact ⟨rfl, hs'.none⟩
    · refine Ops.q (q_cmp rfl rfl (c_ngt (by omega))) ?_
      refine Ops.q (q_pickF rfl rfl) ?_
      refine Ops.q (q_mv rfl) ?_
      refine Ops.q (q_mv rfl) ?_
      refine Ops.q (q_len esz_51 rfl) ?_
      by_cases h143 : 40 < (ps.length : Int)
      · refine Ops.q (q_cmp rfl rfl (c_gt h143)) ?_
        refine Ops.q (q_mv rfl) ?_
        refine Ops.q (q_mv rfl) ?_
        refine Ops.q (q_len esz_51 rfl) ?_
        by_cases h144 : (ps.length : Int) ≤ 256
        · refine Ops.q (q_cmp rfl rfl (c_le h144)) ?_
          refine Ops.q (q_pickT rfl rfl) ?_
          refine Ops.q (q_pickF rfl rfl) ?_
          refine Ops.q (q_mv rfl) ?_
          refine Ops.sk ?_
          refine Ops.sk ?_
          refine Ops.sk ?_
          refine Ops.q (q_pickT rfl rfl) ?_
          refine Ops.to rfl ?_
          refine Cd.cond_t rfl ?_
          refine Cd.seq ?_
          refine Cd.region ?_
          refine Ops.cp en_13 rfl (fun w hs => works_c w) ?_
          refine Ops.q (q_asg rfl) ?_
          refine Ops.to rfl ?_
          refine Cd.rt (fn := Try.f4) [.bool true] (by with_reducible repeat (first | exact rq_here | apply rq_then | apply rq_block)) rfl ⟨rfl, trivial⟩ ?_
          intro w' hs'
          exact ⟨rfl, hs'.none⟩
        · refine Ops.q (q_cmp rfl rfl (c_nle (by omega))) ?_
          refine Ops.q (q_pickT rfl rfl) ?_
          refine Ops.q (q_pickF rfl rfl) ?_
          refine Ops.q (q_mv rfl) ?_
          refine Ops.q (q_mv rfl) ?_
          refine Ops.q (q_len esz_51 rfl) ?_
          by_cases h145 : 260 < (ps.length : Int)
          · refine Ops.q (q_cmp rfl rfl (c_gt h145)) ?_
            refine Ops.q (q_pickF rfl rfl) ?_
            refine Ops.to rfl ?_
            refine Cd.cond_t rfl ?_
            refine Cd.seq ?_
            refine Cd.region ?_
            refine Ops.cp en_13 rfl (fun w hs => works_c w) ?_
            refine Ops.q (q_asg rfl) ?_
            refine Ops.to rfl ?_
            refine Cd.rt (fn := Try.f4) [.bool true] (by with_reducible repeat (first | exact rq_here | apply rq_then | apply rq_block)) rfl ⟨rfl, trivial⟩ ?_
            intro w' hs'
            exact ⟨rfl, hs'.none⟩
          · refine Ops.q (q_cmp rfl rfl (c_ngt (by omega))) ?_
            refine Ops.q (q_pickF rfl rfl) ?_
            refine Ops.to rfl ?_
            refine Cd.cond_f rfl ?_
            refine Cd.skipTo rfl ?_
            refine Cd.seq ?_
            refine Cd.region ?_
            refine Ops.q (q_asg rfl) ?_
            refine Ops.to rfl ?_
            refine Cd.seq ?_
            refine Cd.seq ?_
            refine Cd.region ?_
            refine Ops.q (q_asg rfl) ?_
            refine Ops.to rfl ?_
            refine Cd.block ?_
            refine Cd.lp (σ := Nat × List CL × Option Addr × Nat) (fun s => s.1 ≤ ls.length ∧ s.2.1.map clP = (ls.map clP).take s.1) (fun s => [(0, .int .i64 n), (1, .slice la ls.length lc), (2, .int .i64 m), (3, .int .i64 kk), (4, .slice pa0 ps.length pc0), (11, .slice s.2.2.1 s.2.1.length s.2.2.2), (12, .int .i64 (s.1 : Int))]) (fun s => [row s.2.2.1 s.2.2.2 55 2 s.2.1.length (s.2.1.flatMap eCl), rd (clR s.2.1)]) (fun s => ls.length - s.1) (0, [], none, 0) ⟨Nat.zero_le _, rfl⟩ ⟨rfl, rfl, rfl, rfl, rfl, rfl, rfl, trivial⟩ (fun _ hs => by have h1 := Sat.nilRow (rdNew (φ := clR []) (hs.none) (by intro w l hl; cases hl)) 55 2; exact h1) ?_
            rintro ⟨k, lz, qa, qc⟩ hI
            dsimp only at hI
            change Cd _ _ _ _ _ _ _ [(0, .int .i64 n), (1, .slice la ls.length lc), (2, .int .i64 m), (3, .int .i64 kk), (4, .slice pa0 ps.length pc0), (11, .slice qa lz.length qc), (12, .int .i64 (k : Int))] ([row qa qc 55 2 lz.length (lz.flatMap eCl), rd (clR lz)])
            have hI1 := hI.1
            have hlz : lz.length = k := by have := congrArg List.length hI.2; simp only [List.length_map, List.length_take] at this; omega
            refine Cd.seq ?_
            refine Cd.seq ?_
            refine Cd.region ?_
            refine Ops.q (q_mv rfl) ?_
            refine Ops.q (q_mv rfl) ?_
            refine Ops.q (q_len esz_50 rfl) ?_
            by_cases hk : (k : Int) < (ls.length : Int)
            · refine Ops.q (q_cmp rfl rfl (c_lt hk)) ?_
              obtain ⟨⟨⟨⟨xa, xc⟩, xr⟩, xt⟩, hx⟩ : ∃ x, ls[k]? = some x := ⟨_, List.getElem?_eq_getElem (by omega)⟩
              have hxe : RoL w xa eInt xr := hL.2 _ (List.mem_iff_getElem?.2 ⟨k, hx⟩)
              skip
              have hxq : (ls.map clP)[k]? = some (xr, xt) := by rw [List.getElem?_map, hx]; rfl
              obtain ⟨lb, lo, rfl⟩ := RoL.pos hL.1 eCl_len hx
              refine Ops.to rfl ?_
              refine Cd.cond_t rfl ?_
              refine Cd.skipTo rfl ?_
              refine Cd.seq ?_
              refine Cd.block ?_
              refine Cd.seq ?_
              refine Cd.seq ?_
              refine Cd.region ?_
              refine Ops.q (q_mv rfl) ?_
              refine Ops.q (q_mv rfl) ?_
              refine Ops.q (q_ix (k := k) esz_50 rfl rfl (by omega)) ?_
              refine Ops.q (q_fa fo_54_0 rfl) ?_
              refine Ops.q (q_ldR (v := .slice xa xr.length xc) isA_26 rfl (hL.1.at eCl_len hx rfl)) ?_
              refine Ops.q (q_len esz_26 rfl) ?_
              by_cases h146 : 20 < (xr.length : Int)
              · refine Ops.q (q_cmp rfl rfl (c_gt h146)) ?_
                refine Ops.to rfl ?_
                refine Cd.cond_t rfl ?_
                refine Cd.seq ?_
                refine Cd.region ?_
                refine Ops.cp en_13 rfl (fun w hs => works_c w) ?_
                refine Ops.q (q_asg rfl) ?_
                refine Ops.to rfl ?_
                refine Cd.rt (fn := Try.f4) [.bool true] (by with_reducible repeat (first | exact rq_here | apply rq_then | apply rq_block)) rfl ⟨rfl, trivial⟩ ?_
                intro w' hs'
                exact ⟨rfl, hs'.none⟩
              · refine Ops.q (q_cmp rfl rfl (c_ngt (by omega))) ?_
                refine Ops.to rfl ?_
                refine Cd.cond_f rfl ?_
                refine Cd.skipTo rfl ?_
                refine Cd.draw rfl (by kernel_rfl) .nil ?_
                intro F147 St148 hP149 hF150 hR151
                refine Dr.q (i := 0) hP149 rfl (by kernel_rfl) (q_mv rfl) ?_
                refine Dr.q (i := 2) hP149 rfl (by kernel_rfl) (q_mv rfl) ?_
                refine Dr.q (i := 3) hP149 rfl (by kernel_rfl) (q_mv rfl) ?_
                refine Dr.q (i := 4) hP149 rfl (by kernel_rfl) (q_ix (k := k) esz_50 rfl rfl (by omega)) ?_
                refine Dr.q (i := 5) hP149 rfl (by kernel_rfl) (q_fa fo_54_0 rfl) ?_
                refine Dr.q (i := 6) hP149 rfl (by kernel_rfl) (q_ldR (v := .slice xa xr.length xc) isA_26 rfl (hL.1.at eCl_len hx rfl)) ?_
                refine Dr.q (i := 8) hP149 rfl (by kernel_rfl) (q_mv rfl) ?_
                refine Dr.q (i := 9) hP149 rfl (by kernel_rfl) (q_mv rfl) ?_
                refine Dr.q (i := 10) hP149 rfl (by kernel_rfl) (q_ix (k := k) esz_50 rfl rfl (by omega)) ?_
                refine Dr.q (i := 11) hP149 rfl (by kernel_rfl) (q_fa fo_54_1 rfl) ?_
                refine Dr.q (i := 12) hP149 rfl (by kernel_rfl) (q_ldR (v := .int .i64 xt) isA_3 rfl (hL.1.at eCl_len hx rfl)) ?_
                refine Dr.e (i := 1) rfl (by kernel_rfl) ?_
                refine Ops.lit [] el_26 zsb_3 rfl rfl ⟨by decide, by decide⟩ rfl ?_
                intro b152
                refine Dr.back (fun _ hs => hF150 (.there .here) hs) ?_
                refine Dr.e (i := 7) rfl (by kernel_rfl) ?_
                refine Ops.app (news := (xr.flatMap eInt)) el_26 zsb_3 (by decide) rfl rfl (fun _ hs => hxe.later hs.below) (fun _ hs => hs) (fun _ _ => .here) (fm_length eInt_len xr) (fm_one eInt_one xr) (by omega) (by omega) ?_
                intro a153 c154
                refine Dr.back (fun _ hs => hF150 (.there .here) hs) ?_
                refine Dr.q (i := 13) hP149 rfl (by kernel_rfl) (q_bld [.slice a153 (0 + xr.length) c154, .int .i64 xt] pls_55 zc_55 rfl rfl) ?_
                refine Dr.e (i := 14) rfl (by kernel_rfl) ?_
                refine Ops.lit [.slice a153 (0 + xr.length) c154, .int .i64 xt] el_52 zsb_55 rfl rfl ⟨by decide, by decide⟩ rfl ?_
                intro b155
                refine Dr.back (fun _ hs => hF150 (.there (.there .here)) hs) ?_
                refine Dr.e (i := 15) rfl (by kernel_rfl) ?_
                refine Ops.app (news := [.slice a153 (0 + xr.length) c154, .int .i64 xt]) el_52 zsb_55 (by decide) rfl rfl (fun _ hs => hs.ownRo .here) (fun _ hs => (hs.pull .here).drop) (fun _ _ => (.there (.there .here))) rfl (one rfl) (by omega) (by omega) ?_
                intro a156 c157
                refine Dr.back (fun _ hs => hF150 (.there .here) hs) ?_
                refine Dr.tail 16 (by kernel_rfl) ?_
                refine Ops.sat ?_ (fun _ hs => hR151 (.there .here) hs)
                refine Ops.q (q_asg rfl) ?_
                refine Ops.to rfl ?_
                refine Cd.region ?_
                refine Ops.q (q_mv rfl) ?_
                refine Ops.q (q_ar rfl rfl (a_inc (by omega))) ?_
                refine Ops.q (q_asg rfl) ?_
                refine Ops.rnd ((k + 1, lz ++ [(((a153, c154), xr), xt)], a156, c157)) rfl (by dsimp only; exact (⟨by omega, by rw [List.map_append, hI.2, List.take_add_one, hxq]; rfl⟩)) (by dsimp only; omega) ⟨rfl, rfl, rfl, rfl, rfl, (by (try dsimp only); rw [List.length_append]; rfl), rfl, trivial⟩ (fun _ hs => by have h1 := (((hs.pull (.there .here)).pull (.there .here)).pull (.there (.there .here))); rw [Nat.zero_add] at h1; have h2 := rdGrow h1 (fun w p q => clR_grow (c := c154) (xt := xt) w p q); (try dsimp only); rw [fm_app, List.length_append]; exact h2.pull (.there .here)) 
            · refine Ops.q (q_cmp rfl rfl (c_nlt (by omega))) ?_
              have hz : lz.map clP = ls.map clP := by rw [hI.2, List.take_of_length_le (by rw [List.length_map]; omega)]
              refine Ops.to rfl ?_
              refine Cd.cond_f rfl ?_
              refine Cd.exitTo rfl ?_
              refine Cd.seq ?_
              refine Cd.region ?_
              refine Ops.q (q_mv rfl) ?_
              refine Ops.q (q_mv rfl) ?_
              refine Ops.cl (α := (Option Addr × Nat) × (Option Addr × Nat)) (v := fun x => .tuple #[.agg #[.slice x.1.1 (exN (hornP n (ls.map clP))).ns.length x.1.2, .int .i64 (exN (hornP n (ls.map clP))).inp, .slice x.2.1 (exN (hornP n (ls.map clP))).ss.length x.2.2], .int .i64 (errN (hornP n (ls.map clP)))]) (B := fun x => [row x.1.1 x.1.2 116 8 (exN (hornP n (ls.map clP))).ns.length ((exN (hornP n (ls.map clP))).ns.flatMap ePrm), row x.2.1 x.2.2 126 4 (exN (hornP n (ls.map clP))).ss.length ((exN (hornP n (ls.map clP))).ss.flatMap eSyn)]) en_26 rfl (fun w hs => retR_any (horn_z hz ⟨hs.ownRo .here, (hs.read (.there .here))⟩)) ?_
              rintro ⟨⟨p158, pc159⟩, ⟨q160, qc161⟩⟩
              refine Ops.q (q_mv rfl) ?_
              refine Ops.q (q_ext rfl rfl) ?_
              refine Ops.q (q_ext rfl rfl) ?_
              refine Ops.alc [.slice none 0 0, .int .i64 0, .slice none 0 0] zc_32 ?_
              intro b162
              refine Ops.stB [.slice p158 ((exN (hornP n (ls.map clP))).ns.length) pc159, .int .i64 ((exN (hornP n (ls.map clP))).inp), .slice q160 ((exN (hornP n (ls.map clP))).ss.length) qc161] [.slice p158 ((exN (hornP n (ls.map clP))).ns.length) pc159, .int .i64 ((exN (hornP n (ls.map clP))).inp), .slice q160 ((exN (hornP n (ls.map clP))).ss.length) qc161] sz_32 rfl rfl rfl (one rfl) .here rfl rfl ?_
              refine Ops.q (q_asg rfl) ?_
              refine Ops.to rfl ?_
              refine Cd.seq ?_
              refine Cd.region ?_
              refine Ops.q (q_mv rfl) ?_
              refine Ops.q (q_mv rfl) ?_
              refine Ops.cl (α := (Option Addr × Nat) × (Option Addr × Nat)) (v := fun x => .tuple #[.agg #[.slice x.1.1 (exN (hornP n (ls.map clP))).ns.length x.1.2, .int .i64 (exN (hornP n (ls.map clP))).inp, .slice x.2.1 (exN (hornP n (ls.map clP))).ss.length x.2.2], .int .i64 (errN (hornP n (ls.map clP)))]) (B := fun x => [row x.1.1 x.1.2 116 8 (exN (hornP n (ls.map clP))).ns.length ((exN (hornP n (ls.map clP))).ns.flatMap ePrm), row x.2.1 x.2.2 126 4 (exN (hornP n (ls.map clP))).ss.length ((exN (hornP n (ls.map clP))).ss.flatMap eSyn)]) en_27 rfl (fun w hs => retR_any (rhorn_c n _ _ ls w (hL.later hs.below) hcl)) ?_
              rintro ⟨⟨p163, pc164⟩, ⟨q165, qc166⟩⟩
              refine Ops.q (q_mv rfl) ?_
              refine Ops.q (q_ext rfl rfl) ?_
              refine Ops.q (q_ext rfl rfl) ?_
              refine Ops.alc [.slice none 0 0, .int .i64 0, .slice none 0 0] zc_32 ?_
              intro b167
              refine Ops.stB [.slice p163 ((exN (hornP n (ls.map clP))).ns.length) pc164, .int .i64 ((exN (hornP n (ls.map clP))).inp), .slice q165 ((exN (hornP n (ls.map clP))).ss.length) qc166] [.slice p163 ((exN (hornP n (ls.map clP))).ns.length) pc164, .int .i64 ((exN (hornP n (ls.map clP))).inp), .slice q165 ((exN (hornP n (ls.map clP))).ss.length) qc166] sz_32 rfl rfl rfl (one rfl) .here rfl rfl ?_
              refine Ops.q (q_asg rfl) ?_
              refine Ops.to rfl ?_
              refine Cd.seq ?_
              refine Cd.seq ?_
              refine Cd.region ?_
              refine Ops.q (q_ldBN [.slice p158 ((exN (hornP n (ls.map clP))).ns.length) pc159, .int .i64 ((exN (hornP n (ls.map clP))).inp), .slice q160 ((exN (hornP n (ls.map clP))).ss.length) qc161] isA_32 sz_32 rfl (.there (.there (.there .here))) rfl) ?_
              refine Ops.q (q_ldBN [.slice p163 ((exN (hornP n (ls.map clP))).ns.length) pc164, .int .i64 ((exN (hornP n (ls.map clP))).inp), .slice q165 ((exN (hornP n (ls.map clP))).ss.length) qc166] isA_32 sz_32 rfl .here rfl) ?_
              refine Ops.cp en_17 rfl (fun w hs => dT (nets_c _ _ _ _ _ _ _ _ (exN (hornP n (ls.map clP))).ns (exN (hornP n (ls.map clP))).ns ((exN (hornP n (ls.map clP))).inp) ((exN (hornP n (ls.map clP))).inp) (exN (hornP n (ls.map clP))).ss (exN (hornP n (ls.map clP))).ss w (hs.ownRo (.there (.there (.there (.there .here))))) (hs.ownRo (.there .here)) (hs.ownRo (.there (.there (.there (.there (.there .here)))))) (hs.ownRo (.there (.there .here))) (rowmax hs (.there (.there (.there (.there .here))))) (rowmax hs (.there (.there (.there (.there (.there .here))))))) ⟨rfl, rfl, rfl⟩) ?_
              refine Ops.q (q_not rfl) ?_
              refine Ops.q (q_mv rfl) ?_
              refine Ops.q (q_mv rfl) ?_
              refine Ops.q (q_mv rfl) ?_
              refine Ops.q (q_cmp rfl rfl (c_nne rfl)) ?_
              refine Ops.q (q_pickF rfl rfl) ?_
              refine Ops.to rfl ?_
              refine Cd.cond_f rfl ?_
              refine Cd.skipTo rfl ?_
              refine Cd.seq ?_
              refine Cd.region ?_
              refine Ops.q (q_asg rfl) ?_
              refine Ops.to rfl ?_
              refine Cd.seq ?_
              refine Cd.seq ?_
              refine Cd.region ?_
              refine Ops.q (q_asg rfl) ?_
              refine Ops.to rfl ?_
              refine Cd.block ?_
              refine Cd.lp (σ := Nat × List PR × Option Addr × Nat) (fun s => s.1 ≤ ps.length ∧ s.2.1.map prP = (ps.map prP).take s.1 ∧ ∀ y ∈ (ps.map prP).take s.1, y.1.length ≤ 70 ∧ y.2.length ≤ 70) (fun s => [(0, .int .i64 n), (1, .slice la ls.length lc), (2, .int .i64 m), (3, .int .i64 kk), (4, .slice pa0 ps.length pc0), (13, .pointer (some ⟨b162, 0, none⟩)), (15, .pointer (some ⟨b167, 0, none⟩)), (17, .slice s.2.2.1 s.2.1.length s.2.2.2), (18, .int .i64 (s.1 : Int))]) (fun s => [row s.2.2.1 s.2.2.2 61 2 s.2.1.length (s.2.1.flatMap ePr), rd (prR s.2.1), blk b167 32 [.slice p163 ((exN (hornP n (ls.map clP))).ns.length) pc164, .int .i64 ((exN (hornP n (ls.map clP))).inp), .slice q165 ((exN (hornP n (ls.map clP))).ss.length) qc166], blk b162 32 [.slice p158 ((exN (hornP n (ls.map clP))).ns.length) pc159, .int .i64 ((exN (hornP n (ls.map clP))).inp), .slice q160 ((exN (hornP n (ls.map clP))).ss.length) qc161]]) (fun s => ps.length - s.1) (0, [], none, 0) ⟨Nat.zero_le _, rfl, by simp⟩ ⟨rfl, rfl, rfl, rfl, rfl, rfl, rfl, rfl, rfl, trivial⟩ (fun _ hs => by have h1 := Sat.nilRow (rdNew (φ := prR []) (((((((((hs.pull (.there (.there (.there .here)))).pull (.there .here)).pull (.there (.there .here))).drop.pull (.there (.there .here))).drop.pull (.there (.there .here))).drop.pull (.there (.there .here))).drop.pull (.there (.there .here))).drop.pull (.there (.there .here))).drop) (by intro w l hl; cases hl)) 61 2; exact h1) ?_
              rintro ⟨k, pz, qa, qc⟩ hI
              dsimp only at hI
              change Cd _ _ _ _ _ _ _ [(0, .int .i64 n), (1, .slice la ls.length lc), (2, .int .i64 m), (3, .int .i64 kk), (4, .slice pa0 ps.length pc0), (13, .pointer (some ⟨b162, 0, none⟩)), (15, .pointer (some ⟨b167, 0, none⟩)), (17, .slice qa pz.length qc), (18, .int .i64 (k : Int))] ([row qa qc 61 2 pz.length (pz.flatMap ePr), rd (prR pz), blk b167 32 [.slice p163 ((exN (hornP n (ls.map clP))).ns.length) pc164, .int .i64 ((exN (hornP n (ls.map clP))).inp), .slice q165 ((exN (hornP n (ls.map clP))).ss.length) qc166], blk b162 32 [.slice p158 ((exN (hornP n (ls.map clP))).ns.length) pc159, .int .i64 ((exN (hornP n (ls.map clP))).inp), .slice q160 ((exN (hornP n (ls.map clP))).ss.length) qc161]])
              have hI1 := hI.1
              have hlz : pz.length = k := by have := congrArg List.length hI.2.1; simp only [List.length_map, List.length_take] at this; omega
              refine Cd.seq ?_
              refine Cd.seq ?_
              refine Cd.region ?_
              refine Ops.q (q_mv rfl) ?_
              refine Ops.q (q_mv rfl) ?_
              refine Ops.q (q_len esz_51 rfl) ?_
              by_cases hk : (k : Int) < (ps.length : Int)
              · refine Ops.q (q_cmp rfl rfl (c_lt hk)) ?_
                obtain ⟨⟨⟨⟨ia, ic⟩, xi⟩, ⟨⟨oa, oc⟩, xo⟩⟩, hx⟩ : ∃ x, ps[k]? = some x := ⟨_, List.getElem?_eq_getElem (by omega)⟩
                have hxm := List.mem_iff_getElem?.2 ⟨k, hx⟩
                have hxe : RoL w ia eInt xi := (hP.2 _ hxm).1
                have hxo : RoL w oa eInt xo := (hP.2 _ hxm).2
                have hxl : xi.length ≤ 17592186044416 ∧ xo.length ≤ 17592186044416 := hpl _ hxm
                have hxq : (ps.map prP)[k]? = some (xi, xo) := by rw [List.getElem?_map, hx]; rfl
                obtain ⟨pb, po, rfl⟩ := RoL.pos hP.1 ePr_len hx
                refine Ops.to rfl ?_
                refine Cd.cond_t rfl ?_
                refine Cd.skipTo rfl ?_
                refine Cd.seq ?_
                refine Cd.block ?_
                refine Cd.seq ?_
                refine Cd.seq ?_
                refine Cd.draw rfl (by kernel_rfl) .nil ?_
                intro F168 St169 hP170 hF171 hR172
                refine Dr.q (i := 0) hP170 rfl (by kernel_rfl) (q_mv rfl) ?_
                refine Dr.q (i := 1) hP170 rfl (by kernel_rfl) (q_mv rfl) ?_
                refine Dr.q (i := 2) hP170 rfl (by kernel_rfl) (q_ix (k := k) esz_51 rfl rfl (by omega)) ?_
                refine Dr.q (i := 3) hP170 rfl (by kernel_rfl) (q_fa fo_60_0 rfl) ?_
                refine Dr.q (i := 4) hP170 rfl (by kernel_rfl) (q_ldR (v := .slice ia xi.length ic) isA_26 rfl (hP.1.at ePr_len hx rfl)) ?_
                refine Dr.q (i := 5) hP170 rfl (by kernel_rfl) (q_len esz_26 rfl) ?_
                refine Dr.q (i := 6) hP170 rfl (by kernel_rfl) (q_mv rfl) ?_
                refine Dr.q (i := 7) hP170 rfl (by kernel_rfl) (q_mv rfl) ?_
                refine Dr.q (i := 8) hP170 rfl (by kernel_rfl) (q_ix (k := k) esz_51 rfl rfl (by omega)) ?_
                refine Dr.q (i := 9) hP170 rfl (by kernel_rfl) (q_fa fo_60_1 rfl) ?_
                refine Dr.q (i := 10) hP170 rfl (by kernel_rfl) (q_ldR (v := .slice oa xo.length oc) isA_26 rfl (hP.1.at ePr_len hx rfl)) ?_
                refine Dr.q (i := 11) hP170 rfl (by kernel_rfl) (q_len esz_26 rfl) ?_
                refine Dr.q (i := 12) hP170 rfl (by kernel_rfl) (q_ar (v := (xi.length : Int) + (xo.length : Int)) rfl rfl (a_add (by omega))) ?_
                by_cases h173 : 70 < (xi.length : Int) + (xo.length : Int)
                · refine Dr.q (i := 13) hP170 rfl (by kernel_rfl) (q_cmp rfl rfl (c_gt h173)) ?_
                  refine Dr.tail 14 (by kernel_rfl) ?_
                  refine Ops.sat ?_ (fun _ hs => hR172 .here hs)
                  refine Ops.to rfl ?_
                  refine Cd.cond_t rfl ?_
                  refine Cd.seq ?_
                  refine Cd.region ?_
                  refine Ops.cp en_13 rfl (fun w hs => works_c w) ?_
                  refine Ops.q (q_asg rfl) ?_
                  refine Ops.to rfl ?_
                  refine Cd.rt (fn := Try.f4) [.bool true] (by with_reducible repeat (first | exact rq_here | apply rq_then | apply rq_block)) rfl ⟨rfl, trivial⟩ ?_
                  intro w' hs'
                  exact ⟨rfl, hs'.none⟩
                · refine Dr.q (i := 13) hP170 rfl (by kernel_rfl) (q_cmp rfl rfl (c_ngt (by omega))) ?_
                  refine Dr.tail 14 (by kernel_rfl) ?_
                  refine Ops.sat ?_ (fun _ hs => hR172 .here hs)
                  refine Ops.to rfl ?_
                  refine Cd.cond_f rfl ?_
                  refine Cd.skipTo rfl ?_
                  refine Cd.draw rfl (by kernel_rfl) .nil ?_
                  intro F174 St175 hP176 hF177 hR178
                  refine Dr.q (i := 0) hP176 rfl (by kernel_rfl) (q_mv rfl) ?_
                  refine Dr.q (i := 2) hP176 rfl (by kernel_rfl) (q_mv rfl) ?_
                  refine Dr.q (i := 3) hP176 rfl (by kernel_rfl) (q_mv rfl) ?_
                  refine Dr.q (i := 4) hP176 rfl (by kernel_rfl) (q_ix (k := k) esz_51 rfl rfl (by omega)) ?_
                  refine Dr.q (i := 5) hP176 rfl (by kernel_rfl) (q_fa fo_60_0 rfl) ?_
                  refine Dr.q (i := 6) hP176 rfl (by kernel_rfl) (q_ldR (v := .slice ia xi.length ic) isA_26 rfl (hP.1.at ePr_len hx rfl)) ?_
                  refine Dr.q (i := 9) hP176 rfl (by kernel_rfl) (q_mv rfl) ?_
                  refine Dr.q (i := 10) hP176 rfl (by kernel_rfl) (q_mv rfl) ?_
                  refine Dr.q (i := 11) hP176 rfl (by kernel_rfl) (q_ix (k := k) esz_51 rfl rfl (by omega)) ?_
                  refine Dr.q (i := 12) hP176 rfl (by kernel_rfl) (q_fa fo_60_1 rfl) ?_
                  refine Dr.q (i := 13) hP176 rfl (by kernel_rfl) (q_ldR (v := .slice oa xo.length oc) isA_26 rfl (hP.1.at ePr_len hx rfl)) ?_
                  refine Dr.e2 (i := 1) (j := 8) rfl rfl (by kernel_rfl) ?_ ?_
                  · refine Ops.lit [] el_26 zsb_3 rfl rfl ⟨by decide, by decide⟩ rfl ?_
                    intro b179
                    refine Dr.back (fun _ hs => hF177 (.there .here) hs) ?_
                    refine Dr.e2 (i := 7) (j := 8) rfl rfl (by kernel_rfl) ?_ ?_
                    · refine Ops.app (news := (xi.flatMap eInt)) el_26 zsb_3 (by decide) rfl rfl (fun _ hs => hxe.later hs.below) (fun _ hs => hs) (fun _ _ => .here) (fm_length eInt_len xi) (fm_one eInt_one xi) (by omega) (by omega) ?_
                      intro a180 c181
                      refine Dr.back (fun _ hs => hF177 (.there .here) hs) ?_
                      refine Dr.e (i := 8) rfl (by kernel_rfl) ?_
                      refine Ops.lit [] el_26 zsb_3 rfl rfl ⟨by decide, by decide⟩ rfl ?_
                      intro b182
                      refine Dr.back (fun _ hs => hF177 (.there (.there .here)) hs) ?_
                      refine Dr.e (i := 14) rfl (by kernel_rfl) ?_
                      refine Ops.app (news := (xo.flatMap eInt)) el_26 zsb_3 (by decide) rfl rfl (fun _ hs => hxo.later hs.below) (fun _ hs => hs) (fun _ _ => .here) (fm_length eInt_len xo) (fm_one eInt_one xo) (by omega) (by omega) ?_
                      intro a183 c184
                      refine Dr.back (fun _ hs => hF177 (.there (.there .here)) hs) ?_
                      refine Dr.q (i := 15) hP176 rfl (by kernel_rfl) (q_bld [.slice a180 (0 + xi.length) c181, .slice a183 (0 + xo.length) c184] pls_61 zc_61 rfl rfl) ?_
                      refine Dr.e (i := 16) rfl (by kernel_rfl) ?_
                      refine Ops.lit [.slice a180 (0 + xi.length) c181, .slice a183 (0 + xo.length) c184] el_58 zsb_61 rfl rfl ⟨by decide, by decide⟩ rfl ?_
                      intro b185
                      refine Dr.back (fun _ hs => hF177 (.there (.there (.there .here))) hs) ?_
                      refine Dr.e (i := 17) rfl (by kernel_rfl) ?_
                      refine Ops.app (news := [.slice a180 (0 + xi.length) c181, .slice a183 (0 + xo.length) c184]) el_58 zsb_61 (by decide) rfl rfl (fun _ hs => hs.ownRo .here) (fun _ hs => (hs.pull .here).drop) (fun _ _ => (.there (.there (.there .here)))) rfl (one rfl) (by omega) (by omega) ?_
                      intro a186 c187
                      refine Dr.back (fun _ hs => hF177 (.there (.there .here)) hs) ?_
                      refine Dr.tail 18 (by kernel_rfl) ?_
                      refine Ops.sat ?_ (fun _ hs => hR178 (.there (.there .here)) hs)
                      refine Ops.q (q_asg rfl) ?_
                      refine Ops.to rfl ?_
                      refine Cd.region ?_
                      refine Ops.q (q_mv rfl) ?_
                      refine Ops.q (q_ar rfl rfl (a_inc (by omega))) ?_
                      refine Ops.q (q_asg rfl) ?_
                      refine Ops.rnd ((k + 1, pz ++ [(((a180, c181), xi), ((a183, c184), xo))], a186, c187)) rfl (by dsimp only; exact (⟨by omega, by rw [List.map_append, hI.2.1, List.take_add_one, hxq]; rfl, by intro y hy; rw [List.take_add_one, hxq] at hy; rcases List.mem_append.1 hy with hy | hy; exact hI.2.2 y hy; obtain rfl := List.mem_singleton.1 hy; dsimp only; omega⟩)) (by dsimp only; omega) ⟨rfl, rfl, rfl, rfl, rfl, rfl, rfl, (by (try dsimp only); rw [List.length_append]; rfl), rfl, trivial⟩ (fun _ hs => by have h1 := ((((((hs.pull (.there (.there (.there (.there (.there .here)))))).pull (.there (.there (.there (.there (.there .here)))))).pull (.there (.there (.there (.there .here))))).pull (.there (.there (.there .here)))).pull (.there (.there (.there (.there .here))))).pull (.there (.there (.there (.there (.there .here)))))); rw [Nat.zero_add, Nat.zero_add] at h1; have h2 := rdGrow (rdGrow (φ' := fun w => prR pz w ∧ Ro w a180 (xi.flatMap eInt)) h1 (fun w p q => ⟨p, q⟩)) (fun w p q => prR_grow (c := c181) (d := c184) w p q); (try dsimp only); rw [fm_app, List.length_append]; exact h2.pull (.there .here)) 
                    · refine Ops.lit [] el_26 zsb_3 rfl rfl ⟨by decide, by decide⟩ rfl ?_
                      intro b188
                      refine Dr.back (fun _ hs => hF177 (.there (.there .here)) hs) ?_
                      refine Dr.e (i := 7) rfl (by kernel_rfl) ?_
                      refine Ops.app (news := (xi.flatMap eInt)) el_26 zsb_3 (by decide) rfl rfl (fun _ hs => hxe.later hs.below) (fun _ hs => hs) (fun _ _ => (.there .here)) (fm_length eInt_len xi) (fm_one eInt_one xi) (by omega) (by omega) ?_
                      intro a189 c190
                      refine Dr.back (fun _ hs => hF177 (.there (.there .here)) hs) ?_
                      refine Dr.e (i := 14) rfl (by kernel_rfl) ?_
                      refine Ops.app (news := (xo.flatMap eInt)) el_26 zsb_3 (by decide) rfl rfl (fun _ hs => hxo.later hs.below) (fun _ hs => hs) (fun _ _ => .here) (fm_length eInt_len xo) (fm_one eInt_one xo) (by omega) (by omega) ?_
                      intro a191 c192
                      refine Dr.back (fun _ hs => hF177 (.there (.there .here)) hs) ?_
                      refine Dr.q (i := 15) hP176 rfl (by kernel_rfl) (q_bld [.slice a189 (0 + xi.length) c190, .slice a191 (0 + xo.length) c192] pls_61 zc_61 rfl rfl) ?_
                      refine Dr.e (i := 16) rfl (by kernel_rfl) ?_
                      refine Ops.lit [.slice a189 (0 + xi.length) c190, .slice a191 (0 + xo.length) c192] el_58 zsb_61 rfl rfl ⟨by decide, by decide⟩ rfl ?_
                      intro b193
                      refine Dr.back (fun _ hs => hF177 (.there (.there (.there .here))) hs) ?_
                      refine Dr.e (i := 17) rfl (by kernel_rfl) ?_
                      refine Ops.app (news := [.slice a189 (0 + xi.length) c190, .slice a191 (0 + xo.length) c192]) el_58 zsb_61 (by decide) rfl rfl (fun _ hs => hs.ownRo .here) (fun _ hs => (hs.pull .here).drop) (fun _ _ => (.there (.there (.there .here)))) rfl (one rfl) (by omega) (by omega) ?_
                      intro a194 c195
                      refine Dr.back (fun _ hs => hF177 (.there (.there .here)) hs) ?_
                      refine Dr.tail 18 (by kernel_rfl) ?_
                      refine Ops.sat ?_ (fun _ hs => hR178 (.there (.there .here)) hs)
                      refine Ops.q (q_asg rfl) ?_
                      refine Ops.to rfl ?_
                      refine Cd.region ?_
                      refine Ops.q (q_mv rfl) ?_
                      refine Ops.q (q_ar rfl rfl (a_inc (by omega))) ?_
                      refine Ops.q (q_asg rfl) ?_
                      refine Ops.rnd ((k + 1, pz ++ [(((a189, c190), xi), ((a191, c192), xo))], a194, c195)) rfl (by dsimp only; exact (⟨by omega, by rw [List.map_append, hI.2.1, List.take_add_one, hxq]; rfl, by intro y hy; rw [List.take_add_one, hxq] at hy; rcases List.mem_append.1 hy with hy | hy; exact hI.2.2 y hy; obtain rfl := List.mem_singleton.1 hy; dsimp only; omega⟩)) (by dsimp only; omega) ⟨rfl, rfl, rfl, rfl, rfl, rfl, rfl, (by (try dsimp only); rw [List.length_append]; rfl), rfl, trivial⟩ (fun _ hs => by have h1 := ((((((hs.pull (.there (.there (.there (.there (.there .here)))))).pull (.there (.there (.there (.there (.there .here)))))).pull (.there (.there (.there (.there .here))))).pull (.there (.there (.there .here)))).pull (.there (.there (.there (.there .here))))).pull (.there (.there (.there (.there (.there .here)))))); rw [Nat.zero_add, Nat.zero_add] at h1; have h2 := rdGrow (rdGrow (φ' := fun w => prR pz w ∧ Ro w a189 (xi.flatMap eInt)) h1 (fun w p q => ⟨p, q⟩)) (fun w p q => prR_grow (c := c190) (d := c192) w p q); (try dsimp only); rw [fm_app, List.length_append]; exact h2.pull (.there .here)) 
                  · refine Ops.lit [] el_26 zsb_3 rfl rfl ⟨by decide, by decide⟩ rfl ?_
                    intro b196
                    refine Dr.back (fun _ hs => hF177 (.there .here) hs) ?_
                    refine Dr.e (i := 1) rfl (by kernel_rfl) ?_
                    refine Ops.lit [] el_26 zsb_3 rfl rfl ⟨by decide, by decide⟩ rfl ?_
                    intro b197
                    refine Dr.back (fun _ hs => hF177 (.there (.there .here)) hs) ?_
                    refine Dr.e (i := 7) rfl (by kernel_rfl) ?_
                    refine Ops.app (news := (xi.flatMap eInt)) el_26 zsb_3 (by decide) rfl rfl (fun _ hs => hxe.later hs.below) (fun _ hs => hs) (fun _ _ => .here) (fm_length eInt_len xi) (fm_one eInt_one xi) (by omega) (by omega) ?_
                    intro a198 c199
                    refine Dr.back (fun _ hs => hF177 (.there (.there .here)) hs) ?_
                    refine Dr.e (i := 14) rfl (by kernel_rfl) ?_
                    refine Ops.app (news := (xo.flatMap eInt)) el_26 zsb_3 (by decide) rfl rfl (fun _ hs => hxo.later hs.below) (fun _ hs => hs) (fun _ _ => (.there .here)) (fm_length eInt_len xo) (fm_one eInt_one xo) (by omega) (by omega) ?_
                    intro a200 c201
                    refine Dr.back (fun _ hs => hF177 (.there (.there .here)) hs) ?_
                    refine Dr.q (i := 15) hP176 rfl (by kernel_rfl) (q_bld [.slice a198 (0 + xi.length) c199, .slice a200 (0 + xo.length) c201] pls_61 zc_61 rfl rfl) ?_
                    refine Dr.e (i := 16) rfl (by kernel_rfl) ?_
                    refine Ops.lit [.slice a198 (0 + xi.length) c199, .slice a200 (0 + xo.length) c201] el_58 zsb_61 rfl rfl ⟨by decide, by decide⟩ rfl ?_
                    intro b202
                    refine Dr.back (fun _ hs => hF177 (.there (.there (.there .here))) hs) ?_
                    refine Dr.e (i := 17) rfl (by kernel_rfl) ?_
                    refine Ops.app (news := [.slice a198 (0 + xi.length) c199, .slice a200 (0 + xo.length) c201]) el_58 zsb_61 (by decide) rfl rfl (fun _ hs => hs.ownRo .here) (fun _ hs => (hs.pull .here).drop) (fun _ _ => (.there (.there (.there .here)))) rfl (one rfl) (by omega) (by omega) ?_
                    intro a203 c204
                    refine Dr.back (fun _ hs => hF177 (.there (.there .here)) hs) ?_
                    refine Dr.tail 18 (by kernel_rfl) ?_
                    refine Ops.sat ?_ (fun _ hs => hR178 (.there (.there .here)) hs)
                    refine Ops.q (q_asg rfl) ?_
                    refine Ops.to rfl ?_
                    refine Cd.region ?_
                    refine Ops.q (q_mv rfl) ?_
                    refine Ops.q (q_ar rfl rfl (a_inc (by omega))) ?_
                    refine Ops.q (q_asg rfl) ?_
                    refine Ops.rnd ((k + 1, pz ++ [(((a198, c199), xi), ((a200, c201), xo))], a203, c204)) rfl (by dsimp only; exact (⟨by omega, by rw [List.map_append, hI.2.1, List.take_add_one, hxq]; rfl, by intro y hy; rw [List.take_add_one, hxq] at hy; rcases List.mem_append.1 hy with hy | hy; exact hI.2.2 y hy; obtain rfl := List.mem_singleton.1 hy; dsimp only; omega⟩)) (by dsimp only; omega) ⟨rfl, rfl, rfl, rfl, rfl, rfl, rfl, (by (try dsimp only); rw [List.length_append]; rfl), rfl, trivial⟩ (fun _ hs => by have h1 := ((((((hs.pull (.there (.there (.there (.there (.there .here)))))).pull (.there (.there (.there (.there (.there .here)))))).pull (.there (.there (.there (.there .here))))).pull (.there (.there (.there (.there .here))))).pull (.there (.there (.there (.there .here))))).pull (.there (.there (.there (.there (.there .here)))))); rw [Nat.zero_add, Nat.zero_add] at h1; have h2 := rdGrow (rdGrow (φ' := fun w => prR pz w ∧ Ro w a198 (xi.flatMap eInt)) h1 (fun w p q => ⟨p, q⟩)) (fun w p q => prR_grow (c := c199) (d := c201) w p q); (try dsimp only); rw [fm_app, List.length_append]; exact h2.pull (.there .here)) 
              · refine Ops.q (q_cmp rfl rfl (c_nlt (by omega))) ?_
                have hz2 : pz.map prP = (ps.map prP) := by rw [hI.2.1, List.take_of_length_le (by rw [List.length_map]; omega)]
                have h70 : ∀ y ∈ (ps.map prP), y.1.length ≤ 1000000 ∧ y.2.length ≤ 1000000 := by intro y hy; have := hI.2.2 y (by rw [List.take_of_length_le (by rw [List.length_map]; omega)]; exact hy); omega
                have h70p : ∀ l ∈ ps, l.1.2.length ≤ 1000000 ∧ l.2.2.length ≤ 1000000 := fun l hl => h70 _ (List.mem_map_of_mem hl)
                refine Ops.to rfl ?_
                refine Cd.cond_f rfl ?_
                refine Cd.exitTo rfl ?_
                refine Cd.seq ?_
                refine Cd.region ?_
                refine Ops.q (q_mv rfl) ?_
                refine Ops.q (q_mv rfl) ?_
                refine Ops.q (q_mv rfl) ?_
                refine Ops.cl (α := (Option Addr × Nat) × (Option Addr × Nat)) (v := fun x => .tuple #[.agg #[.slice x.1.1 (exN (memP m kk (ps.map prP))).ns.length x.1.2, .int .i64 (exN (memP m kk (ps.map prP))).inp, .slice x.2.1 (exN (memP m kk (ps.map prP))).ss.length x.2.2], .int .i64 (errN (memP m kk (ps.map prP)))]) (B := fun x => [row x.1.1 x.1.2 116 8 (exN (memP m kk (ps.map prP))).ns.length ((exN (memP m kk (ps.map prP))).ns.flatMap ePrm), row x.2.1 x.2.2 126 4 (exN (memP m kk (ps.map prP))).ss.length ((exN (memP m kk (ps.map prP))).ss.flatMap eSyn)]) en_28 rfl (fun w hs => retR_any (memory_z hz2 ⟨hs.ownRo .here, (hs.read (.there .here))⟩ h70)) ?_
                rintro ⟨⟨p205, pc206⟩, ⟨q207, qc208⟩⟩
                refine Ops.q (q_mv rfl) ?_
                refine Ops.q (q_ext rfl rfl) ?_
                refine Ops.q (q_ext rfl rfl) ?_
                refine Ops.stB [.slice p205 ((exN (memP m kk (ps.map prP))).ns.length) pc206, .int .i64 ((exN (memP m kk (ps.map prP))).inp), .slice q207 ((exN (memP m kk (ps.map prP))).ss.length) qc208] [.slice p205 ((exN (memP m kk (ps.map prP))).ns.length) pc206, .int .i64 ((exN (memP m kk (ps.map prP))).inp), .slice q207 ((exN (memP m kk (ps.map prP))).ss.length) qc208] sz_32 rfl rfl rfl (one rfl) (.there (.there (.there (.there (.there .here))))) rfl rfl ?_
                refine Ops.q (q_asg rfl) ?_
                refine Ops.to rfl ?_
                refine Cd.seq ?_
                refine Cd.region ?_
                refine Ops.q (q_mv rfl) ?_
                refine Ops.q (q_mv rfl) ?_
                refine Ops.q (q_mv rfl) ?_
                refine Ops.cl (α := (Option Addr × Nat) × (Option Addr × Nat)) (v := fun x => .tuple #[.agg #[.slice x.1.1 (exN (memP m kk (ps.map prP))).ns.length x.1.2, .int .i64 (exN (memP m kk (ps.map prP))).inp, .slice x.2.1 (exN (memP m kk (ps.map prP))).ss.length x.2.2], .int .i64 (errN (memP m kk (ps.map prP)))]) (B := fun x => [row x.1.1 x.1.2 116 8 (exN (memP m kk (ps.map prP))).ns.length ((exN (memP m kk (ps.map prP))).ns.flatMap ePrm), row x.2.1 x.2.2 126 4 (exN (memP m kk (ps.map prP))).ss.length ((exN (memP m kk (ps.map prP))).ss.flatMap eSyn)]) en_29 rfl (fun w hs => retR_any (rmemory_c m kk _ _ ps w (hP.later hs.below) h70p hcp)) ?_
                rintro ⟨⟨p209, pc210⟩, ⟨q211, qc212⟩⟩
                refine Ops.q (q_mv rfl) ?_
                refine Ops.q (q_ext rfl rfl) ?_
                refine Ops.q (q_ext rfl rfl) ?_
                refine Ops.stB [.slice p209 ((exN (memP m kk (ps.map prP))).ns.length) pc210, .int .i64 ((exN (memP m kk (ps.map prP))).inp), .slice q211 ((exN (memP m kk (ps.map prP))).ss.length) qc212] [.slice p209 ((exN (memP m kk (ps.map prP))).ns.length) pc210, .int .i64 ((exN (memP m kk (ps.map prP))).inp), .slice q211 ((exN (memP m kk (ps.map prP))).ss.length) qc212] sz_32 rfl rfl rfl (one rfl) (.there (.there (.there (.there (.there (.there .here)))))) rfl rfl ?_
                refine Ops.q (q_asg rfl) ?_
                refine Ops.to rfl ?_
                refine Cd.seq ?_
                refine Cd.region ?_
                refine Ops.q (q_ldBN [.slice p205 ((exN (memP m kk (ps.map prP))).ns.length) pc206, .int .i64 ((exN (memP m kk (ps.map prP))).inp), .slice q207 ((exN (memP m kk (ps.map prP))).ss.length) qc208] isA_32 sz_32 rfl (.there (.there (.there (.there (.there (.there (.there .here))))))) rfl) ?_
                refine Ops.q (q_ldBN [.slice p209 ((exN (memP m kk (ps.map prP))).ns.length) pc210, .int .i64 ((exN (memP m kk (ps.map prP))).inp), .slice q211 ((exN (memP m kk (ps.map prP))).ss.length) qc212] isA_32 sz_32 rfl (.there (.there (.there (.there (.there (.there .here)))))) rfl) ?_
                refine Ops.cp en_17 rfl (fun w hs => dT (nets_c _ _ _ _ _ _ _ _ (exN (memP m kk (ps.map prP))).ns (exN (memP m kk (ps.map prP))).ns ((exN (memP m kk (ps.map prP))).inp) ((exN (memP m kk (ps.map prP))).inp) (exN (memP m kk (ps.map prP))).ss (exN (memP m kk (ps.map prP))).ss w (hs.ownRo (.there (.there .here))) (hs.ownRo .here) (hs.ownRo (.there (.there (.there .here)))) (hs.ownRo (.there .here)) (rowmax hs (.there (.there .here))) (rowmax hs (.there (.there (.there .here))))) ⟨rfl, rfl, rfl⟩) ?_
                refine Ops.q (q_mv rfl) ?_
                refine Ops.q (q_mv rfl) ?_
                refine Ops.q (q_mv rfl) ?_
                refine Ops.q (q_cmp rfl rfl (c_eq rfl)) ?_
                refine Ops.q (q_pickT rfl rfl) ?_
                refine Ops.q (q_mv rfl) ?_
                refine Ops.cp en_13 rfl (fun w hs => works_c w) ?_
                refine Ops.q (q_pickT rfl rfl) ?_
                refine Ops.q (q_asg rfl) ?_
                refine Ops.to rfl ?_
                refine Cd.rt (fn := Try.f4) [.bool true] (by with_reducible repeat (first | exact rq_here | apply rq_then | apply rq_block)) rfl ⟨rfl, trivial⟩ ?_
                intro w' hs'
                exact ⟨rfl, hs'.none⟩
      · refine Ops.q (q_cmp rfl rfl (c_ngt (by omega))) ?_
        refine Ops.q (q_mv rfl) ?_
        refine Ops.sk ?_
        refine Ops.sk ?_
        refine Ops.sk ?_
        refine Ops.q (q_pickF rfl rfl) ?_
        refine Ops.q (q_pickF rfl rfl) ?_
        refine Ops.q (q_mv rfl) ?_
        refine Ops.q (q_mv rfl) ?_
        refine Ops.q (q_len esz_51 rfl) ?_
        by_cases h213 : 260 < (ps.length : Int)
        · refine Ops.q (q_cmp rfl rfl (c_gt h213)) ?_
          refine Ops.q (q_pickF rfl rfl) ?_
          refine Ops.to rfl ?_
          refine Cd.cond_t rfl ?_
          refine Cd.seq ?_
          refine Cd.region ?_
          refine Ops.cp en_13 rfl (fun w hs => works_c w) ?_
          refine Ops.q (q_asg rfl) ?_
          refine Ops.to rfl ?_
          refine Cd.rt (fn := Try.f4) [.bool true] (by with_reducible repeat (first | exact rq_here | apply rq_then | apply rq_block)) rfl ⟨rfl, trivial⟩ ?_
          intro w' hs'
          exact ⟨rfl, hs'.none⟩
        · refine Ops.q (q_cmp rfl rfl (c_ngt (by omega))) ?_
          refine Ops.q (q_pickF rfl rfl) ?_
          refine Ops.to rfl ?_
          refine Cd.cond_f rfl ?_
          refine Cd.skipTo rfl ?_
          refine Cd.seq ?_
          refine Cd.region ?_
          refine Ops.q (q_asg rfl) ?_
          refine Ops.to rfl ?_
          refine Cd.seq ?_
          refine Cd.seq ?_
          refine Cd.region ?_
          refine Ops.q (q_asg rfl) ?_
          refine Ops.to rfl ?_
          refine Cd.block ?_
          refine Cd.lp (σ := Nat × List CL × Option Addr × Nat) (fun s => s.1 ≤ ls.length ∧ s.2.1.map clP = (ls.map clP).take s.1) (fun s => [(0, .int .i64 n), (1, .slice la ls.length lc), (2, .int .i64 m), (3, .int .i64 kk), (4, .slice pa0 ps.length pc0), (11, .slice s.2.2.1 s.2.1.length s.2.2.2), (12, .int .i64 (s.1 : Int))]) (fun s => [row s.2.2.1 s.2.2.2 55 2 s.2.1.length (s.2.1.flatMap eCl), rd (clR s.2.1)]) (fun s => ls.length - s.1) (0, [], none, 0) ⟨Nat.zero_le _, rfl⟩ ⟨rfl, rfl, rfl, rfl, rfl, rfl, rfl, trivial⟩ (fun _ hs => by have h1 := Sat.nilRow (rdNew (φ := clR []) (hs.none) (by intro w l hl; cases hl)) 55 2; exact h1) ?_
          rintro ⟨k, lz, qa, qc⟩ hI
          dsimp only at hI
          change Cd _ _ _ _ _ _ _ [(0, .int .i64 n), (1, .slice la ls.length lc), (2, .int .i64 m), (3, .int .i64 kk), (4, .slice pa0 ps.length pc0), (11, .slice qa lz.length qc), (12, .int .i64 (k : Int))] ([row qa qc 55 2 lz.length (lz.flatMap eCl), rd (clR lz)])
          have hI1 := hI.1
          have hlz : lz.length = k := by have := congrArg List.length hI.2; simp only [List.length_map, List.length_take] at this; omega
          refine Cd.seq ?_
          refine Cd.seq ?_
          refine Cd.region ?_
          refine Ops.q (q_mv rfl) ?_
          refine Ops.q (q_mv rfl) ?_
          refine Ops.q (q_len esz_50 rfl) ?_
          by_cases hk : (k : Int) < (ls.length : Int)
          · refine Ops.q (q_cmp rfl rfl (c_lt hk)) ?_
            obtain ⟨⟨⟨⟨xa, xc⟩, xr⟩, xt⟩, hx⟩ : ∃ x, ls[k]? = some x := ⟨_, List.getElem?_eq_getElem (by omega)⟩
            have hxe : RoL w xa eInt xr := hL.2 _ (List.mem_iff_getElem?.2 ⟨k, hx⟩)
            skip
            have hxq : (ls.map clP)[k]? = some (xr, xt) := by rw [List.getElem?_map, hx]; rfl
            obtain ⟨lb, lo, rfl⟩ := RoL.pos hL.1 eCl_len hx
            refine Ops.to rfl ?_
            refine Cd.cond_t rfl ?_
            refine Cd.skipTo rfl ?_
            refine Cd.seq ?_
            refine Cd.block ?_
            refine Cd.seq ?_
            refine Cd.seq ?_
            refine Cd.region ?_
            refine Ops.q (q_mv rfl) ?_
            refine Ops.q (q_mv rfl) ?_
            refine Ops.q (q_ix (k := k) esz_50 rfl rfl (by omega)) ?_
            refine Ops.q (q_fa fo_54_0 rfl) ?_
            refine Ops.q (q_ldR (v := .slice xa xr.length xc) isA_26 rfl (hL.1.at eCl_len hx rfl)) ?_
            refine Ops.q (q_len esz_26 rfl) ?_
            by_cases h214 : 20 < (xr.length : Int)
            · refine Ops.q (q_cmp rfl rfl (c_gt h214)) ?_
              refine Ops.to rfl ?_
              refine Cd.cond_t rfl ?_
              refine Cd.seq ?_
              refine Cd.region ?_
              refine Ops.cp en_13 rfl (fun w hs => works_c w) ?_
              refine Ops.q (q_asg rfl) ?_
              refine Ops.to rfl ?_
              refine Cd.rt (fn := Try.f4) [.bool true] (by with_reducible repeat (first | exact rq_here | apply rq_then | apply rq_block)) rfl ⟨rfl, trivial⟩ ?_
              intro w' hs'
              exact ⟨rfl, hs'.none⟩
            · refine Ops.q (q_cmp rfl rfl (c_ngt (by omega))) ?_
              refine Ops.to rfl ?_
              refine Cd.cond_f rfl ?_
              refine Cd.skipTo rfl ?_
              refine Cd.draw rfl (by kernel_rfl) .nil ?_
              intro F215 St216 hP217 hF218 hR219
              refine Dr.q (i := 0) hP217 rfl (by kernel_rfl) (q_mv rfl) ?_
              refine Dr.q (i := 2) hP217 rfl (by kernel_rfl) (q_mv rfl) ?_
              refine Dr.q (i := 3) hP217 rfl (by kernel_rfl) (q_mv rfl) ?_
              refine Dr.q (i := 4) hP217 rfl (by kernel_rfl) (q_ix (k := k) esz_50 rfl rfl (by omega)) ?_
              refine Dr.q (i := 5) hP217 rfl (by kernel_rfl) (q_fa fo_54_0 rfl) ?_
              refine Dr.q (i := 6) hP217 rfl (by kernel_rfl) (q_ldR (v := .slice xa xr.length xc) isA_26 rfl (hL.1.at eCl_len hx rfl)) ?_
              refine Dr.q (i := 8) hP217 rfl (by kernel_rfl) (q_mv rfl) ?_
              refine Dr.q (i := 9) hP217 rfl (by kernel_rfl) (q_mv rfl) ?_
              refine Dr.q (i := 10) hP217 rfl (by kernel_rfl) (q_ix (k := k) esz_50 rfl rfl (by omega)) ?_
              refine Dr.q (i := 11) hP217 rfl (by kernel_rfl) (q_fa fo_54_1 rfl) ?_
              refine Dr.q (i := 12) hP217 rfl (by kernel_rfl) (q_ldR (v := .int .i64 xt) isA_3 rfl (hL.1.at eCl_len hx rfl)) ?_
              refine Dr.e (i := 1) rfl (by kernel_rfl) ?_
              refine Ops.lit [] el_26 zsb_3 rfl rfl ⟨by decide, by decide⟩ rfl ?_
              intro b220
              refine Dr.back (fun _ hs => hF218 (.there .here) hs) ?_
              refine Dr.e (i := 7) rfl (by kernel_rfl) ?_
              refine Ops.app (news := (xr.flatMap eInt)) el_26 zsb_3 (by decide) rfl rfl (fun _ hs => hxe.later hs.below) (fun _ hs => hs) (fun _ _ => .here) (fm_length eInt_len xr) (fm_one eInt_one xr) (by omega) (by omega) ?_
              intro a221 c222
              refine Dr.back (fun _ hs => hF218 (.there .here) hs) ?_
              refine Dr.q (i := 13) hP217 rfl (by kernel_rfl) (q_bld [.slice a221 (0 + xr.length) c222, .int .i64 xt] pls_55 zc_55 rfl rfl) ?_
              refine Dr.e (i := 14) rfl (by kernel_rfl) ?_
              refine Ops.lit [.slice a221 (0 + xr.length) c222, .int .i64 xt] el_52 zsb_55 rfl rfl ⟨by decide, by decide⟩ rfl ?_
              intro b223
              refine Dr.back (fun _ hs => hF218 (.there (.there .here)) hs) ?_
              refine Dr.e (i := 15) rfl (by kernel_rfl) ?_
              refine Ops.app (news := [.slice a221 (0 + xr.length) c222, .int .i64 xt]) el_52 zsb_55 (by decide) rfl rfl (fun _ hs => hs.ownRo .here) (fun _ hs => (hs.pull .here).drop) (fun _ _ => (.there (.there .here))) rfl (one rfl) (by omega) (by omega) ?_
              intro a224 c225
              refine Dr.back (fun _ hs => hF218 (.there .here) hs) ?_
              refine Dr.tail 16 (by kernel_rfl) ?_
              refine Ops.sat ?_ (fun _ hs => hR219 (.there .here) hs)
              refine Ops.q (q_asg rfl) ?_
              refine Ops.to rfl ?_
              refine Cd.region ?_
              refine Ops.q (q_mv rfl) ?_
              refine Ops.q (q_ar rfl rfl (a_inc (by omega))) ?_
              refine Ops.q (q_asg rfl) ?_
              refine Ops.rnd ((k + 1, lz ++ [(((a221, c222), xr), xt)], a224, c225)) rfl (by dsimp only; exact (⟨by omega, by rw [List.map_append, hI.2, List.take_add_one, hxq]; rfl⟩)) (by dsimp only; omega) ⟨rfl, rfl, rfl, rfl, rfl, (by (try dsimp only); rw [List.length_append]; rfl), rfl, trivial⟩ (fun _ hs => by have h1 := (((hs.pull (.there .here)).pull (.there .here)).pull (.there (.there .here))); rw [Nat.zero_add] at h1; have h2 := rdGrow h1 (fun w p q => clR_grow (c := c222) (xt := xt) w p q); (try dsimp only); rw [fm_app, List.length_append]; exact h2.pull (.there .here)) 
          · refine Ops.q (q_cmp rfl rfl (c_nlt (by omega))) ?_
            have hz : lz.map clP = ls.map clP := by rw [hI.2, List.take_of_length_le (by rw [List.length_map]; omega)]
            refine Ops.to rfl ?_
            refine Cd.cond_f rfl ?_
            refine Cd.exitTo rfl ?_
            refine Cd.seq ?_
            refine Cd.region ?_
            refine Ops.q (q_mv rfl) ?_
            refine Ops.q (q_mv rfl) ?_
            refine Ops.cl (α := (Option Addr × Nat) × (Option Addr × Nat)) (v := fun x => .tuple #[.agg #[.slice x.1.1 (exN (hornP n (ls.map clP))).ns.length x.1.2, .int .i64 (exN (hornP n (ls.map clP))).inp, .slice x.2.1 (exN (hornP n (ls.map clP))).ss.length x.2.2], .int .i64 (errN (hornP n (ls.map clP)))]) (B := fun x => [row x.1.1 x.1.2 116 8 (exN (hornP n (ls.map clP))).ns.length ((exN (hornP n (ls.map clP))).ns.flatMap ePrm), row x.2.1 x.2.2 126 4 (exN (hornP n (ls.map clP))).ss.length ((exN (hornP n (ls.map clP))).ss.flatMap eSyn)]) en_26 rfl (fun w hs => retR_any (horn_z hz ⟨hs.ownRo .here, (hs.read (.there .here))⟩)) ?_
            rintro ⟨⟨p226, pc227⟩, ⟨q228, qc229⟩⟩
            refine Ops.q (q_mv rfl) ?_
            refine Ops.q (q_ext rfl rfl) ?_
            refine Ops.q (q_ext rfl rfl) ?_
            refine Ops.alc [.slice none 0 0, .int .i64 0, .slice none 0 0] zc_32 ?_
            intro b230
            refine Ops.stB [.slice p226 ((exN (hornP n (ls.map clP))).ns.length) pc227, .int .i64 ((exN (hornP n (ls.map clP))).inp), .slice q228 ((exN (hornP n (ls.map clP))).ss.length) qc229] [.slice p226 ((exN (hornP n (ls.map clP))).ns.length) pc227, .int .i64 ((exN (hornP n (ls.map clP))).inp), .slice q228 ((exN (hornP n (ls.map clP))).ss.length) qc229] sz_32 rfl rfl rfl (one rfl) .here rfl rfl ?_
            refine Ops.q (q_asg rfl) ?_
            refine Ops.to rfl ?_
            refine Cd.seq ?_
            refine Cd.region ?_
            refine Ops.q (q_mv rfl) ?_
            refine Ops.q (q_mv rfl) ?_
            refine Ops.cl (α := (Option Addr × Nat) × (Option Addr × Nat)) (v := fun x => .tuple #[.agg #[.slice x.1.1 (exN (hornP n (ls.map clP))).ns.length x.1.2, .int .i64 (exN (hornP n (ls.map clP))).inp, .slice x.2.1 (exN (hornP n (ls.map clP))).ss.length x.2.2], .int .i64 (errN (hornP n (ls.map clP)))]) (B := fun x => [row x.1.1 x.1.2 116 8 (exN (hornP n (ls.map clP))).ns.length ((exN (hornP n (ls.map clP))).ns.flatMap ePrm), row x.2.1 x.2.2 126 4 (exN (hornP n (ls.map clP))).ss.length ((exN (hornP n (ls.map clP))).ss.flatMap eSyn)]) en_27 rfl (fun w hs => retR_any (rhorn_c n _ _ ls w (hL.later hs.below) hcl)) ?_
            rintro ⟨⟨p231, pc232⟩, ⟨q233, qc234⟩⟩
            refine Ops.q (q_mv rfl) ?_
            refine Ops.q (q_ext rfl rfl) ?_
            refine Ops.q (q_ext rfl rfl) ?_
            refine Ops.alc [.slice none 0 0, .int .i64 0, .slice none 0 0] zc_32 ?_
            intro b235
            refine Ops.stB [.slice p231 ((exN (hornP n (ls.map clP))).ns.length) pc232, .int .i64 ((exN (hornP n (ls.map clP))).inp), .slice q233 ((exN (hornP n (ls.map clP))).ss.length) qc234] [.slice p231 ((exN (hornP n (ls.map clP))).ns.length) pc232, .int .i64 ((exN (hornP n (ls.map clP))).inp), .slice q233 ((exN (hornP n (ls.map clP))).ss.length) qc234] sz_32 rfl rfl rfl (one rfl) .here rfl rfl ?_
            refine Ops.q (q_asg rfl) ?_
            refine Ops.to rfl ?_
            refine Cd.seq ?_
            refine Cd.seq ?_
            refine Cd.region ?_
            refine Ops.q (q_ldBN [.slice p226 ((exN (hornP n (ls.map clP))).ns.length) pc227, .int .i64 ((exN (hornP n (ls.map clP))).inp), .slice q228 ((exN (hornP n (ls.map clP))).ss.length) qc229] isA_32 sz_32 rfl (.there (.there (.there .here))) rfl) ?_
            refine Ops.q (q_ldBN [.slice p231 ((exN (hornP n (ls.map clP))).ns.length) pc232, .int .i64 ((exN (hornP n (ls.map clP))).inp), .slice q233 ((exN (hornP n (ls.map clP))).ss.length) qc234] isA_32 sz_32 rfl .here rfl) ?_
            refine Ops.cp en_17 rfl (fun w hs => dT (nets_c _ _ _ _ _ _ _ _ (exN (hornP n (ls.map clP))).ns (exN (hornP n (ls.map clP))).ns ((exN (hornP n (ls.map clP))).inp) ((exN (hornP n (ls.map clP))).inp) (exN (hornP n (ls.map clP))).ss (exN (hornP n (ls.map clP))).ss w (hs.ownRo (.there (.there (.there (.there .here))))) (hs.ownRo (.there .here)) (hs.ownRo (.there (.there (.there (.there (.there .here)))))) (hs.ownRo (.there (.there .here))) (rowmax hs (.there (.there (.there (.there .here))))) (rowmax hs (.there (.there (.there (.there (.there .here))))))) ⟨rfl, rfl, rfl⟩) ?_
            refine Ops.q (q_not rfl) ?_
            refine Ops.q (q_mv rfl) ?_
            refine Ops.q (q_mv rfl) ?_
            refine Ops.q (q_mv rfl) ?_
            refine Ops.q (q_cmp rfl rfl (c_nne rfl)) ?_
            refine Ops.q (q_pickF rfl rfl) ?_
            refine Ops.to rfl ?_
            refine Cd.cond_f rfl ?_
            refine Cd.skipTo rfl ?_
            refine Cd.seq ?_
            refine Cd.region ?_
            refine Ops.q (q_asg rfl) ?_
            refine Ops.to rfl ?_
            refine Cd.seq ?_
            refine Cd.seq ?_
            refine Cd.region ?_
            refine Ops.q (q_asg rfl) ?_
            refine Ops.to rfl ?_
            refine Cd.block ?_
            refine Cd.lp (σ := Nat × List PR × Option Addr × Nat) (fun s => s.1 ≤ ps.length ∧ s.2.1.map prP = (ps.map prP).take s.1 ∧ ∀ y ∈ (ps.map prP).take s.1, y.1.length ≤ 70 ∧ y.2.length ≤ 70) (fun s => [(0, .int .i64 n), (1, .slice la ls.length lc), (2, .int .i64 m), (3, .int .i64 kk), (4, .slice pa0 ps.length pc0), (13, .pointer (some ⟨b230, 0, none⟩)), (15, .pointer (some ⟨b235, 0, none⟩)), (17, .slice s.2.2.1 s.2.1.length s.2.2.2), (18, .int .i64 (s.1 : Int))]) (fun s => [row s.2.2.1 s.2.2.2 61 2 s.2.1.length (s.2.1.flatMap ePr), rd (prR s.2.1), blk b235 32 [.slice p231 ((exN (hornP n (ls.map clP))).ns.length) pc232, .int .i64 ((exN (hornP n (ls.map clP))).inp), .slice q233 ((exN (hornP n (ls.map clP))).ss.length) qc234], blk b230 32 [.slice p226 ((exN (hornP n (ls.map clP))).ns.length) pc227, .int .i64 ((exN (hornP n (ls.map clP))).inp), .slice q228 ((exN (hornP n (ls.map clP))).ss.length) qc229]]) (fun s => ps.length - s.1) (0, [], none, 0) ⟨Nat.zero_le _, rfl, by simp⟩ ⟨rfl, rfl, rfl, rfl, rfl, rfl, rfl, rfl, rfl, trivial⟩ (fun _ hs => by have h1 := Sat.nilRow (rdNew (φ := prR []) (((((((((hs.pull (.there (.there (.there .here)))).pull (.there .here)).pull (.there (.there .here))).drop.pull (.there (.there .here))).drop.pull (.there (.there .here))).drop.pull (.there (.there .here))).drop.pull (.there (.there .here))).drop.pull (.there (.there .here))).drop) (by intro w l hl; cases hl)) 61 2; exact h1) ?_
            rintro ⟨k, pz, qa, qc⟩ hI
            dsimp only at hI
            change Cd _ _ _ _ _ _ _ [(0, .int .i64 n), (1, .slice la ls.length lc), (2, .int .i64 m), (3, .int .i64 kk), (4, .slice pa0 ps.length pc0), (13, .pointer (some ⟨b230, 0, none⟩)), (15, .pointer (some ⟨b235, 0, none⟩)), (17, .slice qa pz.length qc), (18, .int .i64 (k : Int))] ([row qa qc 61 2 pz.length (pz.flatMap ePr), rd (prR pz), blk b235 32 [.slice p231 ((exN (hornP n (ls.map clP))).ns.length) pc232, .int .i64 ((exN (hornP n (ls.map clP))).inp), .slice q233 ((exN (hornP n (ls.map clP))).ss.length) qc234], blk b230 32 [.slice p226 ((exN (hornP n (ls.map clP))).ns.length) pc227, .int .i64 ((exN (hornP n (ls.map clP))).inp), .slice q228 ((exN (hornP n (ls.map clP))).ss.length) qc229]])
            have hI1 := hI.1
            have hlz : pz.length = k := by have := congrArg List.length hI.2.1; simp only [List.length_map, List.length_take] at this; omega
            refine Cd.seq ?_
            refine Cd.seq ?_
            refine Cd.region ?_
            refine Ops.q (q_mv rfl) ?_
            refine Ops.q (q_mv rfl) ?_
            refine Ops.q (q_len esz_51 rfl) ?_
            by_cases hk : (k : Int) < (ps.length : Int)
            · refine Ops.q (q_cmp rfl rfl (c_lt hk)) ?_
              obtain ⟨⟨⟨⟨ia, ic⟩, xi⟩, ⟨⟨oa, oc⟩, xo⟩⟩, hx⟩ : ∃ x, ps[k]? = some x := ⟨_, List.getElem?_eq_getElem (by omega)⟩
              have hxm := List.mem_iff_getElem?.2 ⟨k, hx⟩
              have hxe : RoL w ia eInt xi := (hP.2 _ hxm).1
              have hxo : RoL w oa eInt xo := (hP.2 _ hxm).2
              have hxl : xi.length ≤ 17592186044416 ∧ xo.length ≤ 17592186044416 := hpl _ hxm
              have hxq : (ps.map prP)[k]? = some (xi, xo) := by rw [List.getElem?_map, hx]; rfl
              obtain ⟨pb, po, rfl⟩ := RoL.pos hP.1 ePr_len hx
              refine Ops.to rfl ?_
              refine Cd.cond_t rfl ?_
              refine Cd.skipTo rfl ?_
              refine Cd.seq ?_
              refine Cd.block ?_
              refine Cd.seq ?_
              refine Cd.seq ?_
              refine Cd.draw rfl (by kernel_rfl) .nil ?_
              intro F236 St237 hP238 hF239 hR240
              refine Dr.q (i := 0) hP238 rfl (by kernel_rfl) (q_mv rfl) ?_
              refine Dr.q (i := 1) hP238 rfl (by kernel_rfl) (q_mv rfl) ?_
              refine Dr.q (i := 2) hP238 rfl (by kernel_rfl) (q_ix (k := k) esz_51 rfl rfl (by omega)) ?_
              refine Dr.q (i := 3) hP238 rfl (by kernel_rfl) (q_fa fo_60_0 rfl) ?_
              refine Dr.q (i := 4) hP238 rfl (by kernel_rfl) (q_ldR (v := .slice ia xi.length ic) isA_26 rfl (hP.1.at ePr_len hx rfl)) ?_
              refine Dr.q (i := 5) hP238 rfl (by kernel_rfl) (q_len esz_26 rfl) ?_
              refine Dr.q (i := 6) hP238 rfl (by kernel_rfl) (q_mv rfl) ?_
              refine Dr.q (i := 7) hP238 rfl (by kernel_rfl) (q_mv rfl) ?_
              refine Dr.q (i := 8) hP238 rfl (by kernel_rfl) (q_ix (k := k) esz_51 rfl rfl (by omega)) ?_
              refine Dr.q (i := 9) hP238 rfl (by kernel_rfl) (q_fa fo_60_1 rfl) ?_
              refine Dr.q (i := 10) hP238 rfl (by kernel_rfl) (q_ldR (v := .slice oa xo.length oc) isA_26 rfl (hP.1.at ePr_len hx rfl)) ?_
              refine Dr.q (i := 11) hP238 rfl (by kernel_rfl) (q_len esz_26 rfl) ?_
              refine Dr.q (i := 12) hP238 rfl (by kernel_rfl) (q_ar (v := (xi.length : Int) + (xo.length : Int)) rfl rfl (a_add (by omega))) ?_
              by_cases h241 : 70 < (xi.length : Int) + (xo.length : Int)
              · refine Dr.q (i := 13) hP238 rfl (by kernel_rfl) (q_cmp rfl rfl (c_gt h241)) ?_
                refine Dr.tail 14 (by kernel_rfl) ?_
                refine Ops.sat ?_ (fun _ hs => hR240 .here hs)
                refine Ops.to rfl ?_
                refine Cd.cond_t rfl ?_
                refine Cd.seq ?_
                refine Cd.region ?_
                refine Ops.cp en_13 rfl (fun w hs => works_c w) ?_
                refine Ops.q (q_asg rfl) ?_
                refine Ops.to rfl ?_
                refine Cd.rt (fn := Try.f4) [.bool true] (by with_reducible repeat (first | exact rq_here | apply rq_then | apply rq_block)) rfl ⟨rfl, trivial⟩ ?_
                intro w' hs'
                exact ⟨rfl, hs'.none⟩
              · refine Dr.q (i := 13) hP238 rfl (by kernel_rfl) (q_cmp rfl rfl (c_ngt (by omega))) ?_
                refine Dr.tail 14 (by kernel_rfl) ?_
                refine Ops.sat ?_ (fun _ hs => hR240 .here hs)
                refine Ops.to rfl ?_
                refine Cd.cond_f rfl ?_
                refine Cd.skipTo rfl ?_
                refine Cd.draw rfl (by kernel_rfl) .nil ?_
                intro F242 St243 hP244 hF245 hR246
                refine Dr.q (i := 0) hP244 rfl (by kernel_rfl) (q_mv rfl) ?_
                refine Dr.q (i := 2) hP244 rfl (by kernel_rfl) (q_mv rfl) ?_
                refine Dr.q (i := 3) hP244 rfl (by kernel_rfl) (q_mv rfl) ?_
                refine Dr.q (i := 4) hP244 rfl (by kernel_rfl) (q_ix (k := k) esz_51 rfl rfl (by omega)) ?_
                refine Dr.q (i := 5) hP244 rfl (by kernel_rfl) (q_fa fo_60_0 rfl) ?_
                refine Dr.q (i := 6) hP244 rfl (by kernel_rfl) (q_ldR (v := .slice ia xi.length ic) isA_26 rfl (hP.1.at ePr_len hx rfl)) ?_
                refine Dr.q (i := 9) hP244 rfl (by kernel_rfl) (q_mv rfl) ?_
                refine Dr.q (i := 10) hP244 rfl (by kernel_rfl) (q_mv rfl) ?_
                refine Dr.q (i := 11) hP244 rfl (by kernel_rfl) (q_ix (k := k) esz_51 rfl rfl (by omega)) ?_
                refine Dr.q (i := 12) hP244 rfl (by kernel_rfl) (q_fa fo_60_1 rfl) ?_
                refine Dr.q (i := 13) hP244 rfl (by kernel_rfl) (q_ldR (v := .slice oa xo.length oc) isA_26 rfl (hP.1.at ePr_len hx rfl)) ?_
                refine Dr.e2 (i := 1) (j := 8) rfl rfl (by kernel_rfl) ?_ ?_
                · refine Ops.lit [] el_26 zsb_3 rfl rfl ⟨by decide, by decide⟩ rfl ?_
                  intro b247
                  refine Dr.back (fun _ hs => hF245 (.there .here) hs) ?_
                  refine Dr.e2 (i := 7) (j := 8) rfl rfl (by kernel_rfl) ?_ ?_
                  · refine Ops.app (news := (xi.flatMap eInt)) el_26 zsb_3 (by decide) rfl rfl (fun _ hs => hxe.later hs.below) (fun _ hs => hs) (fun _ _ => .here) (fm_length eInt_len xi) (fm_one eInt_one xi) (by omega) (by omega) ?_
                    intro a248 c249
                    refine Dr.back (fun _ hs => hF245 (.there .here) hs) ?_
                    refine Dr.e (i := 8) rfl (by kernel_rfl) ?_
                    refine Ops.lit [] el_26 zsb_3 rfl rfl ⟨by decide, by decide⟩ rfl ?_
                    intro b250
                    refine Dr.back (fun _ hs => hF245 (.there (.there .here)) hs) ?_
                    refine Dr.e (i := 14) rfl (by kernel_rfl) ?_
                    refine Ops.app (news := (xo.flatMap eInt)) el_26 zsb_3 (by decide) rfl rfl (fun _ hs => hxo.later hs.below) (fun _ hs => hs) (fun _ _ => .here) (fm_length eInt_len xo) (fm_one eInt_one xo) (by omega) (by omega) ?_
                    intro a251 c252
                    refine Dr.back (fun _ hs => hF245 (.there (.there .here)) hs) ?_
                    refine Dr.q (i := 15) hP244 rfl (by kernel_rfl) (q_bld [.slice a248 (0 + xi.length) c249, .slice a251 (0 + xo.length) c252] pls_61 zc_61 rfl rfl) ?_
                    refine Dr.e (i := 16) rfl (by kernel_rfl) ?_
                    refine Ops.lit [.slice a248 (0 + xi.length) c249, .slice a251 (0 + xo.length) c252] el_58 zsb_61 rfl rfl ⟨by decide, by decide⟩ rfl ?_
                    intro b253
                    refine Dr.back (fun _ hs => hF245 (.there (.there (.there .here))) hs) ?_
                    refine Dr.e (i := 17) rfl (by kernel_rfl) ?_
                    refine Ops.app (news := [.slice a248 (0 + xi.length) c249, .slice a251 (0 + xo.length) c252]) el_58 zsb_61 (by decide) rfl rfl (fun _ hs => hs.ownRo .here) (fun _ hs => (hs.pull .here).drop) (fun _ _ => (.there (.there (.there .here)))) rfl (one rfl) (by omega) (by omega) ?_
                    intro a254 c255
                    refine Dr.back (fun _ hs => hF245 (.there (.there .here)) hs) ?_
                    refine Dr.tail 18 (by kernel_rfl) ?_
                    refine Ops.sat ?_ (fun _ hs => hR246 (.there (.there .here)) hs)
                    refine Ops.q (q_asg rfl) ?_
                    refine Ops.to rfl ?_
                    refine Cd.region ?_
                    refine Ops.q (q_mv rfl) ?_
                    refine Ops.q (q_ar rfl rfl (a_inc (by omega))) ?_
                    refine Ops.q (q_asg rfl) ?_
                    refine Ops.rnd ((k + 1, pz ++ [(((a248, c249), xi), ((a251, c252), xo))], a254, c255)) rfl (by dsimp only; exact (⟨by omega, by rw [List.map_append, hI.2.1, List.take_add_one, hxq]; rfl, by intro y hy; rw [List.take_add_one, hxq] at hy; rcases List.mem_append.1 hy with hy | hy; exact hI.2.2 y hy; obtain rfl := List.mem_singleton.1 hy; dsimp only; omega⟩)) (by dsimp only; omega) ⟨rfl, rfl, rfl, rfl, rfl, rfl, rfl, (by (try dsimp only); rw [List.length_append]; rfl), rfl, trivial⟩ (fun _ hs => by have h1 := ((((((hs.pull (.there (.there (.there (.there (.there .here)))))).pull (.there (.there (.there (.there (.there .here)))))).pull (.there (.there (.there (.there .here))))).pull (.there (.there (.there .here)))).pull (.there (.there (.there (.there .here))))).pull (.there (.there (.there (.there (.there .here)))))); rw [Nat.zero_add, Nat.zero_add] at h1; have h2 := rdGrow (rdGrow (φ' := fun w => prR pz w ∧ Ro w a248 (xi.flatMap eInt)) h1 (fun w p q => ⟨p, q⟩)) (fun w p q => prR_grow (c := c249) (d := c252) w p q); (try dsimp only); rw [fm_app, List.length_append]; exact h2.pull (.there .here)) 
                  · refine Ops.lit [] el_26 zsb_3 rfl rfl ⟨by decide, by decide⟩ rfl ?_
                    intro b256
                    refine Dr.back (fun _ hs => hF245 (.there (.there .here)) hs) ?_
                    refine Dr.e (i := 7) rfl (by kernel_rfl) ?_
                    refine Ops.app (news := (xi.flatMap eInt)) el_26 zsb_3 (by decide) rfl rfl (fun _ hs => hxe.later hs.below) (fun _ hs => hs) (fun _ _ => (.there .here)) (fm_length eInt_len xi) (fm_one eInt_one xi) (by omega) (by omega) ?_
                    intro a257 c258
                    refine Dr.back (fun _ hs => hF245 (.there (.there .here)) hs) ?_
                    refine Dr.e (i := 14) rfl (by kernel_rfl) ?_
                    refine Ops.app (news := (xo.flatMap eInt)) el_26 zsb_3 (by decide) rfl rfl (fun _ hs => hxo.later hs.below) (fun _ hs => hs) (fun _ _ => .here) (fm_length eInt_len xo) (fm_one eInt_one xo) (by omega) (by omega) ?_
                    intro a259 c260
                    refine Dr.back (fun _ hs => hF245 (.there (.there .here)) hs) ?_
                    refine Dr.q (i := 15) hP244 rfl (by kernel_rfl) (q_bld [.slice a257 (0 + xi.length) c258, .slice a259 (0 + xo.length) c260] pls_61 zc_61 rfl rfl) ?_
                    refine Dr.e (i := 16) rfl (by kernel_rfl) ?_
                    refine Ops.lit [.slice a257 (0 + xi.length) c258, .slice a259 (0 + xo.length) c260] el_58 zsb_61 rfl rfl ⟨by decide, by decide⟩ rfl ?_
                    intro b261
                    refine Dr.back (fun _ hs => hF245 (.there (.there (.there .here))) hs) ?_
                    refine Dr.e (i := 17) rfl (by kernel_rfl) ?_
                    refine Ops.app (news := [.slice a257 (0 + xi.length) c258, .slice a259 (0 + xo.length) c260]) el_58 zsb_61 (by decide) rfl rfl (fun _ hs => hs.ownRo .here) (fun _ hs => (hs.pull .here).drop) (fun _ _ => (.there (.there (.there .here)))) rfl (one rfl) (by omega) (by omega) ?_
                    intro a262 c263
                    refine Dr.back (fun _ hs => hF245 (.there (.there .here)) hs) ?_
                    refine Dr.tail 18 (by kernel_rfl) ?_
                    refine Ops.sat ?_ (fun _ hs => hR246 (.there (.there .here)) hs)
                    refine Ops.q (q_asg rfl) ?_
                    refine Ops.to rfl ?_
                    refine Cd.region ?_
                    refine Ops.q (q_mv rfl) ?_
                    refine Ops.q (q_ar rfl rfl (a_inc (by omega))) ?_
                    refine Ops.q (q_asg rfl) ?_
                    refine Ops.rnd ((k + 1, pz ++ [(((a257, c258), xi), ((a259, c260), xo))], a262, c263)) rfl (by dsimp only; exact (⟨by omega, by rw [List.map_append, hI.2.1, List.take_add_one, hxq]; rfl, by intro y hy; rw [List.take_add_one, hxq] at hy; rcases List.mem_append.1 hy with hy | hy; exact hI.2.2 y hy; obtain rfl := List.mem_singleton.1 hy; dsimp only; omega⟩)) (by dsimp only; omega) ⟨rfl, rfl, rfl, rfl, rfl, rfl, rfl, (by (try dsimp only); rw [List.length_append]; rfl), rfl, trivial⟩ (fun _ hs => by have h1 := ((((((hs.pull (.there (.there (.there (.there (.there .here)))))).pull (.there (.there (.there (.there (.there .here)))))).pull (.there (.there (.there (.there .here))))).pull (.there (.there (.there .here)))).pull (.there (.there (.there (.there .here))))).pull (.there (.there (.there (.there (.there .here)))))); rw [Nat.zero_add, Nat.zero_add] at h1; have h2 := rdGrow (rdGrow (φ' := fun w => prR pz w ∧ Ro w a257 (xi.flatMap eInt)) h1 (fun w p q => ⟨p, q⟩)) (fun w p q => prR_grow (c := c258) (d := c260) w p q); (try dsimp only); rw [fm_app, List.length_append]; exact h2.pull (.there .here)) 
                · refine Ops.lit [] el_26 zsb_3 rfl rfl ⟨by decide, by decide⟩ rfl ?_
                  intro b264
                  refine Dr.back (fun _ hs => hF245 (.there .here) hs) ?_
                  refine Dr.e (i := 1) rfl (by kernel_rfl) ?_
                  refine Ops.lit [] el_26 zsb_3 rfl rfl ⟨by decide, by decide⟩ rfl ?_
                  intro b265
                  refine Dr.back (fun _ hs => hF245 (.there (.there .here)) hs) ?_
                  refine Dr.e (i := 7) rfl (by kernel_rfl) ?_
                  refine Ops.app (news := (xi.flatMap eInt)) el_26 zsb_3 (by decide) rfl rfl (fun _ hs => hxe.later hs.below) (fun _ hs => hs) (fun _ _ => .here) (fm_length eInt_len xi) (fm_one eInt_one xi) (by omega) (by omega) ?_
                  intro a266 c267
                  refine Dr.back (fun _ hs => hF245 (.there (.there .here)) hs) ?_
                  refine Dr.e (i := 14) rfl (by kernel_rfl) ?_
                  refine Ops.app (news := (xo.flatMap eInt)) el_26 zsb_3 (by decide) rfl rfl (fun _ hs => hxo.later hs.below) (fun _ hs => hs) (fun _ _ => (.there .here)) (fm_length eInt_len xo) (fm_one eInt_one xo) (by omega) (by omega) ?_
                  intro a268 c269
                  refine Dr.back (fun _ hs => hF245 (.there (.there .here)) hs) ?_
                  refine Dr.q (i := 15) hP244 rfl (by kernel_rfl) (q_bld [.slice a266 (0 + xi.length) c267, .slice a268 (0 + xo.length) c269] pls_61 zc_61 rfl rfl) ?_
                  refine Dr.e (i := 16) rfl (by kernel_rfl) ?_
                  refine Ops.lit [.slice a266 (0 + xi.length) c267, .slice a268 (0 + xo.length) c269] el_58 zsb_61 rfl rfl ⟨by decide, by decide⟩ rfl ?_
                  intro b270
                  refine Dr.back (fun _ hs => hF245 (.there (.there (.there .here))) hs) ?_
                  refine Dr.e (i := 17) rfl (by kernel_rfl) ?_
                  refine Ops.app (news := [.slice a266 (0 + xi.length) c267, .slice a268 (0 + xo.length) c269]) el_58 zsb_61 (by decide) rfl rfl (fun _ hs => hs.ownRo .here) (fun _ hs => (hs.pull .here).drop) (fun _ _ => (.there (.there (.there .here)))) rfl (one rfl) (by omega) (by omega) ?_
                  intro a271 c272
                  refine Dr.back (fun _ hs => hF245 (.there (.there .here)) hs) ?_
                  refine Dr.tail 18 (by kernel_rfl) ?_
                  refine Ops.sat ?_ (fun _ hs => hR246 (.there (.there .here)) hs)
                  refine Ops.q (q_asg rfl) ?_
                  refine Ops.to rfl ?_
                  refine Cd.region ?_
                  refine Ops.q (q_mv rfl) ?_
                  refine Ops.q (q_ar rfl rfl (a_inc (by omega))) ?_
                  refine Ops.q (q_asg rfl) ?_
                  refine Ops.rnd ((k + 1, pz ++ [(((a266, c267), xi), ((a268, c269), xo))], a271, c272)) rfl (by dsimp only; exact (⟨by omega, by rw [List.map_append, hI.2.1, List.take_add_one, hxq]; rfl, by intro y hy; rw [List.take_add_one, hxq] at hy; rcases List.mem_append.1 hy with hy | hy; exact hI.2.2 y hy; obtain rfl := List.mem_singleton.1 hy; dsimp only; omega⟩)) (by dsimp only; omega) ⟨rfl, rfl, rfl, rfl, rfl, rfl, rfl, (by (try dsimp only); rw [List.length_append]; rfl), rfl, trivial⟩ (fun _ hs => by have h1 := ((((((hs.pull (.there (.there (.there (.there (.there .here)))))).pull (.there (.there (.there (.there (.there .here)))))).pull (.there (.there (.there (.there .here))))).pull (.there (.there (.there (.there .here))))).pull (.there (.there (.there (.there .here))))).pull (.there (.there (.there (.there (.there .here)))))); rw [Nat.zero_add, Nat.zero_add] at h1; have h2 := rdGrow (rdGrow (φ' := fun w => prR pz w ∧ Ro w a266 (xi.flatMap eInt)) h1 (fun w p q => ⟨p, q⟩)) (fun w p q => prR_grow (c := c267) (d := c269) w p q); (try dsimp only); rw [fm_app, List.length_append]; exact h2.pull (.there .here)) 
            · refine Ops.q (q_cmp rfl rfl (c_nlt (by omega))) ?_
              have hz2 : pz.map prP = (ps.map prP) := by rw [hI.2.1, List.take_of_length_le (by rw [List.length_map]; omega)]
              have h70 : ∀ y ∈ (ps.map prP), y.1.length ≤ 1000000 ∧ y.2.length ≤ 1000000 := by intro y hy; have := hI.2.2 y (by rw [List.take_of_length_le (by rw [List.length_map]; omega)]; exact hy); omega
              have h70p : ∀ l ∈ ps, l.1.2.length ≤ 1000000 ∧ l.2.2.length ≤ 1000000 := fun l hl => h70 _ (List.mem_map_of_mem hl)
              refine Ops.to rfl ?_
              refine Cd.cond_f rfl ?_
              refine Cd.exitTo rfl ?_
              refine Cd.seq ?_
              refine Cd.region ?_
              refine Ops.q (q_mv rfl) ?_
              refine Ops.q (q_mv rfl) ?_
              refine Ops.q (q_mv rfl) ?_
              refine Ops.cl (α := (Option Addr × Nat) × (Option Addr × Nat)) (v := fun x => .tuple #[.agg #[.slice x.1.1 (exN (memP m kk (ps.map prP))).ns.length x.1.2, .int .i64 (exN (memP m kk (ps.map prP))).inp, .slice x.2.1 (exN (memP m kk (ps.map prP))).ss.length x.2.2], .int .i64 (errN (memP m kk (ps.map prP)))]) (B := fun x => [row x.1.1 x.1.2 116 8 (exN (memP m kk (ps.map prP))).ns.length ((exN (memP m kk (ps.map prP))).ns.flatMap ePrm), row x.2.1 x.2.2 126 4 (exN (memP m kk (ps.map prP))).ss.length ((exN (memP m kk (ps.map prP))).ss.flatMap eSyn)]) en_28 rfl (fun w hs => retR_any (memory_z hz2 ⟨hs.ownRo .here, (hs.read (.there .here))⟩ h70)) ?_
              rintro ⟨⟨p273, pc274⟩, ⟨q275, qc276⟩⟩
              refine Ops.q (q_mv rfl) ?_
              refine Ops.q (q_ext rfl rfl) ?_
              refine Ops.q (q_ext rfl rfl) ?_
              refine Ops.stB [.slice p273 ((exN (memP m kk (ps.map prP))).ns.length) pc274, .int .i64 ((exN (memP m kk (ps.map prP))).inp), .slice q275 ((exN (memP m kk (ps.map prP))).ss.length) qc276] [.slice p273 ((exN (memP m kk (ps.map prP))).ns.length) pc274, .int .i64 ((exN (memP m kk (ps.map prP))).inp), .slice q275 ((exN (memP m kk (ps.map prP))).ss.length) qc276] sz_32 rfl rfl rfl (one rfl) (.there (.there (.there (.there (.there .here))))) rfl rfl ?_
              refine Ops.q (q_asg rfl) ?_
              refine Ops.to rfl ?_
              refine Cd.seq ?_
              refine Cd.region ?_
              refine Ops.q (q_mv rfl) ?_
              refine Ops.q (q_mv rfl) ?_
              refine Ops.q (q_mv rfl) ?_
              refine Ops.cl (α := (Option Addr × Nat) × (Option Addr × Nat)) (v := fun x => .tuple #[.agg #[.slice x.1.1 (exN (memP m kk (ps.map prP))).ns.length x.1.2, .int .i64 (exN (memP m kk (ps.map prP))).inp, .slice x.2.1 (exN (memP m kk (ps.map prP))).ss.length x.2.2], .int .i64 (errN (memP m kk (ps.map prP)))]) (B := fun x => [row x.1.1 x.1.2 116 8 (exN (memP m kk (ps.map prP))).ns.length ((exN (memP m kk (ps.map prP))).ns.flatMap ePrm), row x.2.1 x.2.2 126 4 (exN (memP m kk (ps.map prP))).ss.length ((exN (memP m kk (ps.map prP))).ss.flatMap eSyn)]) en_29 rfl (fun w hs => retR_any (rmemory_c m kk _ _ ps w (hP.later hs.below) h70p hcp)) ?_
              rintro ⟨⟨p277, pc278⟩, ⟨q279, qc280⟩⟩
              refine Ops.q (q_mv rfl) ?_
              refine Ops.q (q_ext rfl rfl) ?_
              refine Ops.q (q_ext rfl rfl) ?_
              refine Ops.stB [.slice p277 ((exN (memP m kk (ps.map prP))).ns.length) pc278, .int .i64 ((exN (memP m kk (ps.map prP))).inp), .slice q279 ((exN (memP m kk (ps.map prP))).ss.length) qc280] [.slice p277 ((exN (memP m kk (ps.map prP))).ns.length) pc278, .int .i64 ((exN (memP m kk (ps.map prP))).inp), .slice q279 ((exN (memP m kk (ps.map prP))).ss.length) qc280] sz_32 rfl rfl rfl (one rfl) (.there (.there (.there (.there (.there (.there .here)))))) rfl rfl ?_
              refine Ops.q (q_asg rfl) ?_
              refine Ops.to rfl ?_
              refine Cd.seq ?_
              refine Cd.region ?_
              refine Ops.q (q_ldBN [.slice p273 ((exN (memP m kk (ps.map prP))).ns.length) pc274, .int .i64 ((exN (memP m kk (ps.map prP))).inp), .slice q275 ((exN (memP m kk (ps.map prP))).ss.length) qc276] isA_32 sz_32 rfl (.there (.there (.there (.there (.there (.there (.there .here))))))) rfl) ?_
              refine Ops.q (q_ldBN [.slice p277 ((exN (memP m kk (ps.map prP))).ns.length) pc278, .int .i64 ((exN (memP m kk (ps.map prP))).inp), .slice q279 ((exN (memP m kk (ps.map prP))).ss.length) qc280] isA_32 sz_32 rfl (.there (.there (.there (.there (.there (.there .here)))))) rfl) ?_
              refine Ops.cp en_17 rfl (fun w hs => dT (nets_c _ _ _ _ _ _ _ _ (exN (memP m kk (ps.map prP))).ns (exN (memP m kk (ps.map prP))).ns ((exN (memP m kk (ps.map prP))).inp) ((exN (memP m kk (ps.map prP))).inp) (exN (memP m kk (ps.map prP))).ss (exN (memP m kk (ps.map prP))).ss w (hs.ownRo (.there (.there .here))) (hs.ownRo .here) (hs.ownRo (.there (.there (.there .here)))) (hs.ownRo (.there .here)) (rowmax hs (.there (.there .here))) (rowmax hs (.there (.there (.there .here))))) ⟨rfl, rfl, rfl⟩) ?_
              refine Ops.q (q_mv rfl) ?_
              refine Ops.q (q_mv rfl) ?_
              refine Ops.q (q_mv rfl) ?_
              refine Ops.q (q_cmp rfl rfl (c_eq rfl)) ?_
              refine Ops.q (q_pickT rfl rfl) ?_
              refine Ops.q (q_mv rfl) ?_
              refine Ops.cp en_13 rfl (fun w hs => works_c w) ?_
              refine Ops.q (q_pickT rfl rfl) ?_
              refine Ops.q (q_asg rfl) ?_
              refine Ops.to rfl ?_
              refine Cd.rt (fn := Try.f4) [.bool true] (by with_reducible repeat (first | exact rq_here | apply rq_then | apply rq_block)) rfl ⟨rfl, trivial⟩ ?_
              intro w' hs'
              exact ⟨rfl, hs'.none⟩
end Go.Proofs.Ytilcdghliigngaa
