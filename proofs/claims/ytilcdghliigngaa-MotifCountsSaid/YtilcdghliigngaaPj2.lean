/- Part of a claim: the program logic, the contracts of the functions, their models. No condition. -/
import Derived.WalkKit
import Derived.OwnWalkIn
import Derived.TacticsInMore
import Derived.OrdersIn
import Derived.RangeFuncLeaves
import Derived.RangeFuncNested
import Derived.Maps.AppendAt
import Derived.Shelf.Abstract
import Derived.Test.YtilcdghliigngaaProg
import Derived.MapKept
import Derived.Laws.StructEq
import Derived.Laws.OwnMore
import Derived.RangeFuncRecord
import Derived.Lib.SliceRun
import Derived.Test.YtilcdghliigngaaPj1
namespace Go.Proofs.Ytilcdghliigngaa
open Go.RowKit Go.Proofs.YtilcdghliigngaaGl Go.Proofs.YtilcdghliigngaaPm
set_option linter.unusedVariables false
set_option linter.unusedSimpArgs false
theorem a_dec {k : Nat} (h : 0 < (k : Int)) (h2 : k < 9223372036854775807) : arV .sub .i64 (k : Int) 1 = some ((k - 1 : Nat) : Int) := by
  rw [a_sub (by omega)]; congr 1; omega
theorem ordered_c (na : Option Addr) (nc : Nat) (sa : Option Addr) (sc : Nat) (ns : List Prm) (ip : Int) (ss : List Syn) (ea : Option Addr) (ec : Nat) (evs : List Evt) (lim : Int) (w : World) (hip : -1000 ≤ ip ∧ ip ≤ 1000) (hlim : 0 ≤ lim ∧ lim ≤ 100000) (hE : RoL w ea eEvt evs) : Calls Try.prog 96 [.agg [.slice na ns.length nc, .int .i64 ip, .slice sa ss.length sc].toArray, .slice ea evs.length ec, .int .i64 lim].toArray w fun e w' => e = .returned (.int .i64 (orderedE ip lim evs)) ∧ Sat w w' [] := by
  refine fstart Try.func96 rfl rfl (Sat.nil w) ?_
  refine Cd.seq ?_
  refine Cd.region ?_
  refine Ops.box [.slice na ns.length nc, .int .i64 ip, .slice sa ss.length sc] rfl rfl ?_
  intro b1
  refine Ops.q (q_asg rfl) ?_
  refine Ops.to rfl ?_
  refine Cd.seq ?_
  refine Cd.seq ?_
  refine Cd.region ?_
  refine Ops.q (q_mv rfl) ?_
  refine Ops.q (q_len esz_27 rfl) ?_
  by_cases h2 : 65536 < (evs.length : Int)
  · refine Ops.q (q_cmp rfl rfl (c_gt h2)) ?_
    refine Ops.to rfl ?_
    refine Cd.cond_t rfl ?_
    refine Cd.seq ?_
    refine Cd.region ?_
    refine Ops.q (q_asg rfl) ?_
    refine Ops.to rfl ?_
    refine Cd.rt (fn := Try.f96) [.int .i64 9] (by with_reducible repeat (first | exact rq_here | apply rq_then | apply rq_block)) rfl ⟨rfl, trivial⟩ ?_
    intro w' hs'
    exact ⟨by simp only [joinV]; unfold orderedE; rw [if_pos (by omega)], hs'.none⟩
  · refine Ops.q (q_cmp rfl rfl (c_ngt (by omega))) ?_
    refine Ops.to rfl ?_
    refine Cd.cond_f rfl ?_
    refine Cd.skipTo rfl ?_
    refine Cd.seq ?_
    refine Cd.seq ?_
    refine Cd.region ?_
    refine Ops.q (q_mv rfl) ?_
    refine Ops.q (q_len esz_27 rfl) ?_
    refine Ops.q (q_mv rfl) ?_
    refine Ops.to rfl ?_
    refine Cd.block ?_
    refine Cd.lp (σ := Nat) (fun k => k ≤ evs.length ∧ ordE ip lim (prevE evs k) (evs.drop k) = ordE ip lim none evs) (fun k => [(1, .slice ea evs.length ec), (2, .int .i64 lim), (3, .pointer (some ⟨b1, 0, none⟩)), (12, .slice ea evs.length ec), (13, .int .i64 (evs.length : Int)), (14, .int .i64 (k : Int))]) (fun k => [blk b1 32 [.slice na ns.length nc, .int .i64 ip, .slice sa ss.length sc]]) (fun k => evs.length - k) 0 ⟨Nat.zero_le _, rfl⟩ ⟨rfl, rfl, rfl, rfl, rfl, rfl, trivial⟩ (fun _ hs => hs) ?_
    intro k hI
    have hI1 := hI.1
    refine Cd.seq ?_
    refine Cd.region ?_
    by_cases hk1 : (k : Int) < (evs.length : Int)
    · refine Ops.q (q_cmp rfl rfl (c_lt hk1)) ?_
      obtain ⟨x3, hx4⟩ : ∃ x, evs[k]? = some x := ⟨_, List.getElem?_eq_getElem (by omega)⟩
      obtain ⟨ab5, ao6, rfl⟩ := RoL.pos hE eEvt_len hx4
      refine Ops.to rfl ?_
      refine Cd.seq ?_
      refine Cd.cond_t rfl ?_
      refine Cd.skipTo rfl ?_
      refine Cd.seq ?_
      refine Cd.block ?_
      refine Cd.seq ?_
      refine Cd.region ?_
      refine Ops.q (q_mv rfl) ?_
      refine Ops.q (q_ix (k := k) esz_27 rfl rfl (by omega)) ?_
      refine Ops.q (q_ldRN [.int .i64 x3.tick, .int .i64 x3.id] isA_88 sz_88 rfl (fun j u hu => hE.at eEvt_len hx4 hu)) ?_
      refine Ops.alc [.int .i64 0, .int .i64 0] zc_88 ?_
      intro b7
      refine Ops.q (q_asg rfl) ?_
      refine Ops.stB [.int .i64 x3.tick, .int .i64 x3.id] [.int .i64 x3.tick, .int .i64 x3.id] sz_88 rfl rfl rfl (one rfl) .here rfl rfl ?_
      refine Ops.to rfl ?_
      refine Cd.block ?_
      refine Cd.seq ?_
      refine Cd.region ?_
      refine Ops.q (q_fa fo_88_0 rfl) ?_
      refine Ops.q (q_ldB isA_3 rfl .here rfl) ?_
      refine Ops.q (q_mv rfl) ?_
      refine Ops.q (q_ar rfl rfl (a_sub (by omega))) ?_
      by_cases h8 : wi x3.tick 0 (lim - 1)
      · refine Ops.cp en_74 rfl (fun w hs => dT (nwithin_c _ _ _ w) h8) ?_
        refine Ops.q (q_not rfl) ?_
        refine Ops.q (q_mv rfl) ?_
        refine Ops.q (q_fa fo_88_1 rfl) ?_
        refine Ops.q (q_ldB isA_3 rfl .here rfl) ?_
        refine Ops.q (q_fa fo_32_1 rfl) ?_
        refine Ops.q (q_ldB isA_3 rfl (.there .here) rfl) ?_
        refine Ops.q (q_ar rfl rfl (a_sub (by omega))) ?_
        by_cases h9 : wi x3.id 0 (ip - 1)
        · refine Ops.cp en_74 rfl (fun w hs => dT (nwithin_c _ _ _ w) h9) ?_
          refine Ops.q (q_not rfl) ?_
          refine Ops.q (q_pickF rfl rfl) ?_
          refine Ops.q (q_asg rfl) ?_
          refine Ops.to rfl ?_
          refine Cd.cond_f rfl ?_
          refine Cd.seq ?_
          refine Cd.draw rfl (by kernel_rfl) (.cons .here .nil) ?_
          intro F10 St11 hP12 hF13 hR14
          have hbad : ¬ evBad ip lim x3 := by unfold evBad; simp_all
          refine Dr.q (i := 0) hP12 rfl (by kernel_rfl) (q_mv rfl) ?_
          by_cases h15 : 0 < (k : Int)
          · refine Dr.q (i := 1) hP12 rfl (by kernel_rfl) (q_cmp rfl rfl (c_gt h15)) ?_
            obtain ⟨x16, hx17⟩ : ∃ x, evs[k - 1]? = some x := ⟨_, List.getElem?_eq_getElem (by omega)⟩
            refine Dr.q (i := 2) hP12 rfl (by kernel_rfl) (q_mv rfl) ?_
            refine Dr.q (i := 3) hP12 rfl (by kernel_rfl) (q_fa fo_88_0 rfl) ?_
            refine Dr.q (i := 4) hP12 rfl (by kernel_rfl) (q_ldB isA_3 rfl .here rfl) ?_
            refine Dr.q (i := 5) hP12 rfl (by kernel_rfl) (q_mv rfl) ?_
            refine Dr.q (i := 6) hP12 rfl (by kernel_rfl) (q_mv rfl) ?_
            refine Dr.q (i := 7) hP12 rfl (by kernel_rfl) (q_ar rfl rfl (a_dec (by assumption) (by omega))) ?_
            refine Dr.q (i := 8) hP12 rfl (by kernel_rfl) (q_ix (k := (k - 1)) esz_27 rfl rfl (by omega)) ?_
            refine Dr.q (i := 9) hP12 rfl (by kernel_rfl) (q_fa fo_88_0 rfl) ?_
            refine Dr.q (i := 10) hP12 rfl (by kernel_rfl) (q_ldR isA_3 rfl (hE.at eEvt_len hx17 rfl)) ?_
            by_cases h18 : x3.tick < x16.tick
            · refine Dr.q (i := 11) hP12 rfl (by kernel_rfl) (q_cmp rfl rfl (c_lt h18)) ?_
              refine Dr.q (i := 12) hP12 rfl (by kernel_rfl) (q_mv rfl) ?_
              refine Dr.sk (i := 13) rfl (by kernel_rfl) ?_
              refine Dr.sk (i := 14) rfl (by kernel_rfl) ?_
              refine Dr.sk (i := 15) rfl (by kernel_rfl) ?_
              refine Dr.sk (i := 16) rfl (by kernel_rfl) ?_
              refine Dr.sk (i := 17) rfl (by kernel_rfl) ?_
              refine Dr.sk (i := 18) rfl (by kernel_rfl) ?_
              refine Dr.sk (i := 19) rfl (by kernel_rfl) ?_
              refine Dr.sk (i := 20) rfl (by kernel_rfl) ?_
              refine Dr.sk (i := 21) rfl (by kernel_rfl) ?_
              refine Dr.sk (i := 22) rfl (by kernel_rfl) ?_
              refine Dr.sk (i := 23) rfl (by kernel_rfl) ?_
              refine Dr.sk (i := 24) rfl (by kernel_rfl) ?_
              refine Dr.sk (i := 25) rfl (by kernel_rfl) ?_
              refine Dr.sk (i := 26) rfl (by kernel_rfl) ?_
              refine Dr.sk (i := 27) rfl (by kernel_rfl) ?_
              refine Dr.sk (i := 28) rfl (by kernel_rfl) ?_
              refine Dr.sk (i := 29) rfl (by kernel_rfl) ?_
              refine Dr.sk (i := 30) rfl (by kernel_rfl) ?_
              refine Dr.sk (i := 31) rfl (by kernel_rfl) ?_
              refine Dr.sk (i := 32) rfl (by kernel_rfl) ?_
              refine Dr.q (i := 33) hP12 rfl (by kernel_rfl) (q_pickT rfl rfl) ?_
              refine Dr.q (i := 34) hP12 rfl (by kernel_rfl) (q_pickT rfl rfl) ?_
              refine Dr.q (i := 35) hP12 rfl (by kernel_rfl) (q_asg rfl) ?_
              refine Dr.tail 36 (by kernel_rfl) ?_
              refine Ops.sat ?_ (fun _ hs => hR14 .here hs)
              refine Ops.to rfl ?_
              refine Cd.cond_t rfl ?_
              refine Cd.seq ?_
              refine Cd.region ?_
              refine Ops.q (q_asg rfl) ?_
              refine Ops.to rfl ?_
              refine Cd.rt (fn := Try.f96) [.int .i64 2] (by with_reducible repeat (first | exact rq_here | apply rq_then | apply rq_block)) rfl ⟨rfl, trivial⟩ ?_
              intro w' hs'
              exact ⟨by simp only [joinV]; have := ord_not (ip := ip) (lim := lim) hx4 hbad (prevE_pos (by assumption) (by assumption)) (by unfold evNot; omega); unfold orderedE; rw [if_neg (by omega)]; grind, hs'.none⟩
            · refine Dr.q (i := 11) hP12 rfl (by kernel_rfl) (q_cmp rfl rfl (c_nlt (by omega))) ?_
              refine Dr.q (i := 12) hP12 rfl (by kernel_rfl) (q_mv rfl) ?_
              refine Dr.q (i := 13) hP12 rfl (by kernel_rfl) (q_fa fo_88_0 rfl) ?_
              refine Dr.q (i := 14) hP12 rfl (by kernel_rfl) (q_ldB isA_3 rfl .here rfl) ?_
              refine Dr.q (i := 15) hP12 rfl (by kernel_rfl) (q_mv rfl) ?_
              refine Dr.q (i := 16) hP12 rfl (by kernel_rfl) (q_mv rfl) ?_
              refine Dr.q (i := 17) hP12 rfl (by kernel_rfl) (q_ar rfl rfl (a_dec (by assumption) (by omega))) ?_
              refine Dr.q (i := 18) hP12 rfl (by kernel_rfl) (q_ix (k := (k - 1)) esz_27 rfl rfl (by omega)) ?_
              refine Dr.q (i := 19) hP12 rfl (by kernel_rfl) (q_fa fo_88_0 rfl) ?_
              refine Dr.q (i := 20) hP12 rfl (by kernel_rfl) (q_ldR isA_3 rfl (hE.at eEvt_len hx17 rfl)) ?_
              by_cases h19 : x3.tick = x16.tick
              · refine Dr.q (i := 21) hP12 rfl (by kernel_rfl) (q_cmp rfl rfl (c_eq h19)) ?_
                refine Dr.q (i := 22) hP12 rfl (by kernel_rfl) (q_mv rfl) ?_
                refine Dr.q (i := 23) hP12 rfl (by kernel_rfl) (q_fa fo_88_1 rfl) ?_
                refine Dr.q (i := 24) hP12 rfl (by kernel_rfl) (q_ldB isA_3 rfl .here rfl) ?_
                refine Dr.q (i := 25) hP12 rfl (by kernel_rfl) (q_mv rfl) ?_
                refine Dr.q (i := 26) hP12 rfl (by kernel_rfl) (q_mv rfl) ?_
                refine Dr.q (i := 27) hP12 rfl (by kernel_rfl) (q_ar rfl rfl (a_dec (by assumption) (by omega))) ?_
                refine Dr.q (i := 28) hP12 rfl (by kernel_rfl) (q_ix (k := (k - 1)) esz_27 rfl rfl (by omega)) ?_
                refine Dr.q (i := 29) hP12 rfl (by kernel_rfl) (q_fa fo_88_1 rfl) ?_
                refine Dr.q (i := 30) hP12 rfl (by kernel_rfl) (q_ldR isA_3 rfl (hE.at eEvt_len hx17 rfl)) ?_
                by_cases h20 : x3.id ≤ x16.id
                · refine Dr.q (i := 31) hP12 rfl (by kernel_rfl) (q_cmp rfl rfl (c_le h20)) ?_
                  refine Dr.q (i := 32) hP12 rfl (by kernel_rfl) (q_pickT rfl rfl) ?_
                  refine Dr.q (i := 33) hP12 rfl (by kernel_rfl) (q_pickF rfl rfl) ?_
                  refine Dr.q (i := 34) hP12 rfl (by kernel_rfl) (q_pickT rfl rfl) ?_
                  refine Dr.q (i := 35) hP12 rfl (by kernel_rfl) (q_asg rfl) ?_
                  refine Dr.tail 36 (by kernel_rfl) ?_
                  refine Ops.sat ?_ (fun _ hs => hR14 .here hs)
                  refine Ops.to rfl ?_
                  refine Cd.cond_t rfl ?_
                  refine Cd.seq ?_
                  refine Cd.region ?_
                  refine Ops.q (q_asg rfl) ?_
                  refine Ops.to rfl ?_
                  refine Cd.rt (fn := Try.f96) [.int .i64 2] (by with_reducible repeat (first | exact rq_here | apply rq_then | apply rq_block)) rfl ⟨rfl, trivial⟩ ?_
                  intro w' hs'
                  exact ⟨by simp only [joinV]; have := ord_not (ip := ip) (lim := lim) hx4 hbad (prevE_pos (by assumption) (by assumption)) (by unfold evNot; omega); unfold orderedE; rw [if_neg (by omega)]; grind, hs'.none⟩
                · refine Dr.q (i := 31) hP12 rfl (by kernel_rfl) (q_cmp rfl rfl (c_nle (by omega))) ?_
                  refine Dr.q (i := 32) hP12 rfl (by kernel_rfl) (q_pickT rfl rfl) ?_
                  refine Dr.q (i := 33) hP12 rfl (by kernel_rfl) (q_pickF rfl rfl) ?_
                  refine Dr.q (i := 34) hP12 rfl (by kernel_rfl) (q_pickT rfl rfl) ?_
                  refine Dr.q (i := 35) hP12 rfl (by kernel_rfl) (q_asg rfl) ?_
                  refine Dr.tail 36 (by kernel_rfl) ?_
                  refine Ops.sat ?_ (fun _ hs => hR14 .here hs)
                  refine Ops.to rfl ?_
                  refine Cd.cond_f rfl ?_
                  refine Cd.skipTo rfl ?_
                  refine Cd.region ?_
                  refine Ops.q (q_ar rfl rfl (a_inc (by omega))) ?_
                  refine Ops.q (q_mv rfl) ?_
                  refine Ops.rnd (k + 1) rfl (⟨by omega, by rw [← hI.2]; exact (ord_step hx4 hbad (by intro q' hq'; first | (rw [prevE_zero (by assumption)] at hq'; cases hq') | (rw [prevE_pos (by assumption) (by assumption)] at hq'; obtain rfl := Option.some.inj hq'; unfold evNot; omega))).symm⟩) (by omega) ⟨rfl, rfl, rfl, rfl, rfl, rfl, trivial⟩ (fun _ hs => (hs.pull .here).drop) 
              · refine Dr.q (i := 21) hP12 rfl (by kernel_rfl) (q_cmp rfl rfl (c_neq h19)) ?_
                refine Dr.q (i := 22) hP12 rfl (by kernel_rfl) (q_mv rfl) ?_
                refine Dr.sk (i := 23) rfl (by kernel_rfl) ?_
                refine Dr.sk (i := 24) rfl (by kernel_rfl) ?_
                refine Dr.sk (i := 25) rfl (by kernel_rfl) ?_
                refine Dr.sk (i := 26) rfl (by kernel_rfl) ?_
                refine Dr.sk (i := 27) rfl (by kernel_rfl) ?_
                refine Dr.sk (i := 28) rfl (by kernel_rfl) ?_
                refine Dr.sk (i := 29) rfl (by kernel_rfl) ?_
                refine Dr.sk (i := 30) rfl (by kernel_rfl) ?_
                refine Dr.sk (i := 31) rfl (by kernel_rfl) ?_
                refine Dr.q (i := 32) hP12 rfl (by kernel_rfl) (q_pickF rfl rfl) ?_
                refine Dr.q (i := 33) hP12 rfl (by kernel_rfl) (q_pickF rfl rfl) ?_
                refine Dr.q (i := 34) hP12 rfl (by kernel_rfl) (q_pickT rfl rfl) ?_
                refine Dr.q (i := 35) hP12 rfl (by kernel_rfl) (q_asg rfl) ?_
                refine Dr.tail 36 (by kernel_rfl) ?_
                refine Ops.sat ?_ (fun _ hs => hR14 .here hs)
                refine Ops.to rfl ?_
                refine Cd.cond_f rfl ?_
                refine Cd.skipTo rfl ?_
                refine Cd.region ?_
                refine Ops.q (q_ar rfl rfl (a_inc (by omega))) ?_
                refine Ops.q (q_mv rfl) ?_
                refine Ops.rnd (k + 1) rfl (⟨by omega, by rw [← hI.2]; exact (ord_step hx4 hbad (by intro q' hq'; first | (rw [prevE_zero (by assumption)] at hq'; cases hq') | (rw [prevE_pos (by assumption) (by assumption)] at hq'; obtain rfl := Option.some.inj hq'; unfold evNot; omega))).symm⟩) (by omega) ⟨rfl, rfl, rfl, rfl, rfl, rfl, trivial⟩ (fun _ hs => (hs.pull .here).drop) 
          · refine Dr.q (i := 1) hP12 rfl (by kernel_rfl) (q_cmp rfl rfl (c_ngt (by omega))) ?_
            refine Dr.q (i := 2) hP12 rfl (by kernel_rfl) (q_mv rfl) ?_
            refine Dr.sk (i := 3) rfl (by kernel_rfl) ?_
            refine Dr.sk (i := 4) rfl (by kernel_rfl) ?_
            refine Dr.sk (i := 5) rfl (by kernel_rfl) ?_
            refine Dr.sk (i := 6) rfl (by kernel_rfl) ?_
            refine Dr.sk (i := 7) rfl (by kernel_rfl) ?_
            refine Dr.sk (i := 8) rfl (by kernel_rfl) ?_
            refine Dr.sk (i := 9) rfl (by kernel_rfl) ?_
            refine Dr.sk (i := 10) rfl (by kernel_rfl) ?_
            refine Dr.sk (i := 11) rfl (by kernel_rfl) ?_
            refine Dr.sk (i := 12) rfl (by kernel_rfl) ?_
            refine Dr.sk (i := 13) rfl (by kernel_rfl) ?_
            refine Dr.sk (i := 14) rfl (by kernel_rfl) ?_
            refine Dr.sk (i := 15) rfl (by kernel_rfl) ?_
            refine Dr.sk (i := 16) rfl (by kernel_rfl) ?_
            refine Dr.sk (i := 17) rfl (by kernel_rfl) ?_
            refine Dr.sk (i := 18) rfl (by kernel_rfl) ?_
            refine Dr.sk (i := 19) rfl (by kernel_rfl) ?_
            refine Dr.sk (i := 20) rfl (by kernel_rfl) ?_
            refine Dr.sk (i := 21) rfl (by kernel_rfl) ?_
            refine Dr.sk (i := 22) rfl (by kernel_rfl) ?_
            refine Dr.sk (i := 23) rfl (by kernel_rfl) ?_
            refine Dr.sk (i := 24) rfl (by kernel_rfl) ?_
            refine Dr.sk (i := 25) rfl (by kernel_rfl) ?_
            refine Dr.sk (i := 26) rfl (by kernel_rfl) ?_
            refine Dr.sk (i := 27) rfl (by kernel_rfl) ?_
            refine Dr.sk (i := 28) rfl (by kernel_rfl) ?_
            refine Dr.sk (i := 29) rfl (by kernel_rfl) ?_
            refine Dr.sk (i := 30) rfl (by kernel_rfl) ?_
            refine Dr.sk (i := 31) rfl (by kernel_rfl) ?_
            refine Dr.sk (i := 32) rfl (by kernel_rfl) ?_
            refine Dr.sk (i := 33) rfl (by kernel_rfl) ?_
            refine Dr.q (i := 34) hP12 rfl (by kernel_rfl) (q_pickF rfl rfl) ?_
            refine Dr.q (i := 35) hP12 rfl (by kernel_rfl) (q_asg rfl) ?_
            refine Dr.tail 36 (by kernel_rfl) ?_
            refine Ops.sat ?_ (fun _ hs => hR14 .here hs)
            refine Ops.to rfl ?_
            refine Cd.cond_f rfl ?_
            refine Cd.skipTo rfl ?_
            refine Cd.region ?_
            refine Ops.q (q_ar rfl rfl (a_inc (by omega))) ?_
            refine Ops.q (q_mv rfl) ?_
            refine Ops.rnd (k + 1) rfl (⟨by omega, by rw [← hI.2]; exact (ord_step hx4 hbad (by intro q' hq'; first | (rw [prevE_zero (by assumption)] at hq'; cases hq') | (rw [prevE_pos (by assumption) (by assumption)] at hq'; obtain rfl := Option.some.inj hq'; unfold evNot; omega))).symm⟩) (by omega) ⟨rfl, rfl, rfl, rfl, rfl, rfl, trivial⟩ (fun _ hs => (hs.pull .here).drop) 
        · refine Ops.cp en_74 rfl (fun w hs => dF (nwithin_c _ _ _ w) h9) ?_
          refine Ops.q (q_not rfl) ?_
          refine Ops.q (q_pickF rfl rfl) ?_
          refine Ops.q (q_asg rfl) ?_
          refine Ops.to rfl ?_
          refine Cd.cond_t rfl ?_
          refine Cd.seq ?_
          refine Cd.region ?_
          refine Ops.q (q_asg rfl) ?_
          refine Ops.to rfl ?_
          refine Cd.rt (fn := Try.f96) [.int .i64 3] (by with_reducible repeat (first | exact rq_here | apply rq_then | apply rq_block)) rfl ⟨rfl, trivial⟩ ?_
          intro w' hs'
          exact ⟨by simp only [joinV]; have := ord_bad (ip := ip) (lim := lim) hx4 (by unfold evBad; simp_all); unfold orderedE; rw [if_neg (by omega)]; grind, hs'.none⟩
      · refine Ops.cp en_74 rfl (fun w hs => dF (nwithin_c _ _ _ w) h8) ?_
        refine Ops.q (q_not rfl) ?_
        refine Ops.q (q_mv rfl) ?_
        refine Ops.sk ?_
        refine Ops.sk ?_
        refine Ops.sk ?_
        refine Ops.sk ?_
        refine Ops.sk ?_
        refine Ops.sk ?_
        refine Ops.sk ?_
        refine Ops.q (q_pickT rfl rfl) ?_
        refine Ops.q (q_asg rfl) ?_
        refine Ops.to rfl ?_
        refine Cd.cond_t rfl ?_
        refine Cd.seq ?_
        refine Cd.region ?_
        refine Ops.q (q_asg rfl) ?_
        refine Ops.to rfl ?_
        refine Cd.rt (fn := Try.f96) [.int .i64 3] (by with_reducible repeat (first | exact rq_here | apply rq_then | apply rq_block)) rfl ⟨rfl, trivial⟩ ?_
        intro w' hs'
        exact ⟨by simp only [joinV]; have := ord_bad (ip := ip) (lim := lim) hx4 (by unfold evBad; simp_all); unfold orderedE; rw [if_neg (by omega)]; grind, hs'.none⟩
    · refine Ops.q (q_cmp rfl rfl (c_nlt (by omega))) ?_
      refine Ops.to rfl ?_
      refine Cd.seq ?_
      refine Cd.cond_f rfl ?_
      refine Cd.exitTo rfl ?_
      refine Cd.seq ?_
      refine Cd.region ?_
      refine Ops.q (q_asg rfl) ?_
      refine Ops.to rfl ?_
      refine Cd.rt (fn := Try.f96) [.int .i64 0] (by with_reducible repeat (first | exact rq_here | apply rq_then | apply rq_block)) rfl ⟨rfl, trivial⟩ ?_
      intro w' hs'
      exact ⟨by simp only [joinV]; have := ord_end (ip := ip) (lim := lim) (show evs.length ≤ k by omega); unfold orderedE; rw [if_neg (by omega)]; grind, hs'.none⟩
theorem netCheck_ip {ns : List Prm} {ip : Int} {ss : List Syn} (h : netCheck ⟨ns, ip, ss⟩ = 0) : -1000 ≤ ip ∧ ip ≤ 1000 := by
  unfold netCheck at h; simp only [] at h; grind
theorem prepared_c (na : Option Addr) (nc : Nat) (sa : Option Addr) (sc : Nat) (ns : List Prm) (ip : Int) (ss : List Syn) (ea : Option Addr) (ec : Nat) (evs : List Evt) (t lim : Int) (w : World) (hlim : 0 ≤ lim ∧ lim ≤ 100000) (hN : RoL w na ePrm ns) (hS : RoL w sa eSyn ss) (hE : RoL w ea eEvt evs) : Calls Try.prog 75 [.agg [.slice na ns.length nc, .int .i64 ip, .slice sa ss.length sc].toArray, .slice ea evs.length ec, .int .i64 t, .int .i64 lim].toArray w fun e w' => e = .returned (.int .i64 (preparedE ⟨ns, ip, ss⟩ evs t lim)) ∧ Sat w w' [] := by
  refine fstart Try.func75 rfl rfl (Sat.nil w) ?_
  refine Cd.seq ?_
  refine Cd.region ?_
  refine Ops.box [.slice na ns.length nc, .int .i64 ip, .slice sa ss.length sc] rfl rfl ?_
  intro b1
  refine Ops.q (q_asg rfl) ?_
  refine Ops.to rfl ?_
  refine Cd.seq ?_
  refine Cd.seq ?_
  refine Cd.region ?_
  refine Ops.q (q_ldBN [.slice na ns.length nc, .int .i64 ip, .slice sa ss.length sc] isA_32 sz_32 rfl .here rfl) ?_
  refine Ops.cp en_35 rfl (fun w hs => check_c _ _ _ _ ns ip ss w (hN.later hs.below) (hS.later hs.below)) ?_
  refine Ops.q (q_asg rfl) ?_
  refine Ops.to rfl ?_
  refine Cd.seq ?_
  refine Cd.region ?_
  refine Ops.q (q_mv rfl) ?_
  by_cases h2 : netCheck ⟨ns, ip, ss⟩ = 0
  · refine Ops.q (q_cmp rfl rfl (c_nne h2)) ?_
    have hip := netCheck_ip h2
    refine Ops.to rfl ?_
    refine Cd.cond_f rfl ?_
    refine Cd.skipTo rfl ?_
    refine Cd.seq ?_
    refine Cd.seq ?_
    refine Cd.region ?_
    refine Ops.q (q_mv rfl) ?_
    refine Ops.q (q_mv rfl) ?_
    by_cases h3 : wi t 0 lim
    · refine Ops.cp en_74 rfl (fun w hs => dT (nwithin_c _ _ _ w) h3) ?_
      refine Ops.q (q_not rfl) ?_
      refine Ops.to rfl ?_
      refine Cd.cond_f rfl ?_
      refine Cd.skipTo rfl ?_
      refine Cd.seq ?_
      refine Cd.region ?_
      refine Ops.q (q_ldBN [.slice na ns.length nc, .int .i64 ip, .slice sa ss.length sc] isA_32 sz_32 rfl .here rfl) ?_
      refine Ops.q (q_mv rfl) ?_
      refine Ops.q (q_mv rfl) ?_
      refine Ops.cp en_96 rfl (fun w hs => ordered_c _ _ _ _ ns ip ss _ _ evs lim w (by omega) (by omega) (hE.later hs.below)) ?_
      refine Ops.q (q_asg rfl) ?_
      refine Ops.to rfl ?_
      refine Cd.rt (fn := Try.f75) [.int .i64 (orderedE ip lim evs)] (by with_reducible repeat (first | exact rq_here | apply rq_then | apply rq_block)) rfl ⟨rfl, trivial⟩ ?_
      intro w' hs
      exact ⟨by simp only [joinV]; unfold preparedE; grind, hs.none⟩
    · refine Ops.cp en_74 rfl (fun w hs => dF (nwithin_c _ _ _ w) h3) ?_
      refine Ops.q (q_not rfl) ?_
      refine Ops.to rfl ?_
      refine Cd.cond_t rfl ?_
      refine Cd.seq ?_
      refine Cd.region ?_
      refine Ops.q (q_asg rfl) ?_
      refine Ops.to rfl ?_
      refine Cd.rt (fn := Try.f75) [.int .i64 3] (by with_reducible repeat (first | exact rq_here | apply rq_then | apply rq_block)) rfl ⟨rfl, trivial⟩ ?_
      intro w' hs
      exact ⟨by simp only [joinV]; unfold preparedE; grind, hs.none⟩
  · refine Ops.q (q_cmp rfl rfl (c_ne h2)) ?_
    refine Ops.to rfl ?_
    refine Cd.cond_t rfl ?_
    refine Cd.seq ?_
    refine Cd.region ?_
    refine Ops.q (q_mv rfl) ?_
    refine Ops.q (q_asg rfl) ?_
    refine Ops.to rfl ?_
    refine Cd.rt (fn := Try.f75) [.int .i64 (netCheck ⟨ns, ip, ss⟩)] (by with_reducible repeat (first | exact rq_here | apply rq_then | apply rq_block)) rfl ⟨rfl, trivial⟩ ?_
    intro w' hs
    exact ⟨by simp only [joinV]; unfold preparedE; grind, hs.none⟩
end Go.Proofs.Ytilcdghliigngaa
namespace Go.Proofs.YtilcdghliigngaaGl
set_option linter.unusedVariables false
set_option linter.unusedSimpArgs false
open Go.RowKit
def bun (B : List Atom) : Atom where
  P := fun w S => Sats w B S
  loc := fun h hs => Sats.loc h hs
  lt := fun h hk => Sats.lt h _ hk
theorem Sats.split {w : World} : ∀ {B A : List Atom} {T : Nat → Prop}, Sats w (B ++ A) T → ∃ S U, Sats w B S ∧ Sats w A U ∧ (∀ k, S k → ¬ U k) ∧ ∀ k, T k ↔ S k ∨ U k
  | [], A, T, h => ⟨fun _ => False, T, fun _ h => h, h, fun _ h => h.elim, fun k => ⟨.inr, fun h => h.elim (fun h => h.elim) id⟩⟩
  | b :: B, A, T, ⟨S, V, hb, hr, hd, ht⟩ => by
    obtain ⟨S', U, hB, hA, hd', ht'⟩ := Sats.split hr
    refine ⟨fun k => S k ∨ S' k, U, ⟨S, S', hb, hB, fun k hk hs => hd k hk ((ht' k).2 (.inl hs)), fun _ => Iff.rfl⟩, hA, ?_, ?_⟩
    · rintro k (hk | hk) hu
      · exact hd k hk ((ht' k).2 (.inr hu))
      · exact hd' k hk hu
    · intro k; rw [ht k, ht' k, or_assoc]
theorem Sat.bundle {w0 w : World} {B A : List Atom} (h : Sat w0 w (B ++ A)) : Sat w0 w (bun B :: A) := by
  obtain ⟨hB, T, hs, ht⟩ := h
  obtain ⟨S, U, h1, h2, h3, h4⟩ := Sats.split hs
  exact ⟨hB, T, ⟨S, U, h1, h2, h3, h4⟩, ht⟩
theorem Sat.unbundle {w0 w : World} {B A : List Atom} (h : Sat w0 w (bun B :: A)) : Sat w0 w (B ++ A) := by
  obtain ⟨hB, T, ⟨S, U, h1, h2, h3, h4⟩, ht⟩ := h
  exact ⟨hB, _, Sats.append h2 h1 (fun k hk hu => h3 k hk hu), fun k hk => ht k ((h4 k).2 hk)⟩
def rd (φ : World → Prop) : Atom where
  P := fun w S => φ w ∧ (∀ k, S k → k < w.heap.size) ∧ ∀ w', (∀ k, S k → w'.heap[k]? = w.heap[k]?) → φ w'
  loc := fun {w w' S} h hs => ⟨h.2.2 w' hs, fun k hk => by
    have h1 := h.2.1 k hk
    have h2 := hs k hk
    rw [Array.getElem?_eq_getElem h1] at h2
    exact (Array.getElem?_eq_some_iff.1 h2).1, fun w'' hs' => h.2.2 w'' (fun k hk => (hs' k hk).trans (hs k hk))⟩
  lt := fun h hk => h.2.1 _ hk
theorem Sat.freeze {w0 w : World} {B A : List Atom} {φ : World → Prop} (h : Sat w0 w (bun B :: A)) (hφ : ∀ w S, Sats w B S → φ w) : Sat w0 w (rd φ :: A) := by
  obtain ⟨hB, T, ⟨S, U, h1, h2, h3, h4⟩, ht⟩ := h
  exact ⟨hB, T, ⟨S, U, ⟨hφ w S h1, fun k hk => Sats.lt h1 k hk, fun w' hs => hφ w' S (Sats.loc h1 hs)⟩, h2, h3, h4⟩, ht⟩
theorem Sat.read {w0 w : World} {φ : World → Prop} {A A' : List Atom} (h : Sat w0 w A) (hp : Pull A (rd φ) A') : φ w := by
  obtain ⟨S, hS⟩ := h.mem hp; exact hS.1
theorem Pull.right {a : Atom} {X X' : List Atom} (h : Pull X a X') : ∀ (J : List Atom), Pull (J ++ X) a (J ++ X')
  | [] => h
  | _ :: J => .there (Pull.right h J)
theorem Upd.right {a a' : Atom} {X X' : List Atom} (h : Upd X a a' X') : ∀ (J : List Atom), Upd (J ++ X) a a' (J ++ X')
  | [] => h
  | _ :: J => .there (Upd.right h J)
def Lps : List Nat → List Value → Env → Env
  | p :: ps, v :: vs, L => Lps ps vs ((p, v) :: L)
  | _, _, L => L
theorem Kn.params {n : Nat} {D : List Deferred} : ∀ (ps : List Nat) (vs : List Value) (L : Env) (tmps : Array Value), (∀ p ∈ ps, p < n) → Kn n D L ⟨tmps, D⟩ →
    Kn n D (Lps ps vs L) ⟨(ps.zip vs).foldl (fun t p => t.setIfInBounds p.1 p.2) tmps, D⟩
  | [], _, _, _, _, h => by simpa [Lps] using h
  | p :: ps, [], _, _, _, h => by simpa [Lps] using h
  | p :: ps, v :: vs, L, tmps, hp, h => by
    simp only [Lps, List.zip_cons_cons, List.foldl_cons]
    exact Kn.params ps vs ((p, v) :: L) _ (fun q hq => hp q (.tail _ hq)) (h.put (hp p (.head _)) v)
def lrec (st : LoopState) (l n : Nat) (L : Env) (ps : List Nat) (assign body : Code) : Atom where
  P := fun w S => (∃ fn tmps d, w.heap[l]? = some (.loop { state := st, pending := none, fn, tmps, params := ps.toArray, assign, body, defers := d }) ∧ Kn n [] L ⟨tmps, []⟩) ∧ ∀ k, S k ↔ k = l
  loc := fun {w w' S} h hs => ⟨let ⟨fn, tmps, d, h1, h2⟩ := h.1; ⟨fn, tmps, d, (hs l ((h.2 l).2 rfl)).trans h1, h2⟩, h.2⟩
  lt := fun {w S k} h hk => by obtain ⟨⟨_, _, _, h1, _⟩, h2⟩ := h; rw [(h2 _).1 hk]; exact (Array.getElem?_eq_some_iff.1 h1).1
def dblk (b : Nat) : Atom where
  P := fun w S => w.heap[b]? = some (.deferred (some [])) ∧ ∀ k, S k ↔ k = b
  loc := fun h hs => ⟨(hs b ((h.2 b).2 rfl)).trans h.1, h.2⟩
  lt := fun h hk => by rw [(h.2 _).1 hk]; exact (Array.getElem?_eq_some_iff.1 h.1).1
def junk (b : Nat) : Atom where
  P := fun w S => (w.heap[b]?).isSome = true ∧ ∀ k, S k ↔ k = b
  loc := fun {w w' S} h hs => ⟨by rw [hs b ((h.2 b).2 rfl)]; exact h.1, h.2⟩
  lt := fun {w S k} h hk => by
    rw [(h.2 _).1 hk]
    obtain ⟨o, ho⟩ := Option.isSome_iff_exists.1 h.1
    exact (Array.getElem?_eq_some_iff.1 ho).1
abbrev mark (d : Nat) : Deferred := { target := .collected d, args := #[] }
def YCall (P : Program) (l : Nat) (args : Array Value) (w : World) (R : World → Prop) : Prop :=
  ∃ f tmps asg bd, (Instr.yield l args).run P w = .ok (.round l f tmps asg bd) w ∧ RoundIn (Fw none) 0 P l f tmps asg bd w (fun e w' => e = .returned (.bool true) ∧ R w')
theorem YCall.mono {P : Program} {l : Nat} {args : Array Value} {w : World} {R R' : World → Prop} (h : YCall P l args w R) (hr : ∀ w, R w → R' w) : YCall P l args w R' := by
  obtain ⟨f, tmps, asg, bd, h1, h2⟩ := h
  exact ⟨f, tmps, asg, bd, h1, h2.mono (fun e w' h => ⟨h.1, hr _ h.2⟩)⟩
def Iter {α : Type} (P : Program) (k : FuncId) (caps : List Value) (enc : α → List Value) (xs : List α) (w0 : World) (X : List Atom) : Prop :=
  ∀ (J : List α → List Atom) (l : Nat) (w : World), (∀ Y pre x w, (∃ post, pre ++ x :: post = xs) → Sat w0 w (bun (J pre) :: Y) → YCall P l (enc x).toArray w (fun w' => Sat w0 w' (bun (J (pre ++ [x])) :: Y))) →
    Sat w0 w (bun (J []) :: X) → Calls P k (.func (.yield l) #[] #[] :: caps).toArray w (fun e w' => e = .returned (.tuple #[]) ∧ Sat w0 w' (bun (J xs) :: X))
section
variable {P : Program} {ops : Array Oper} {Q : Exit → Act → World → Prop} {w0 : World} {n : Nat} {D : List Deferred} {rest : List Oper} {L : Env} {A : List Atom}
variable {t : Nat} {ty : TypeId} {pos : String} {af : Array Edge} {g : Option (Nat × Bool)}
theorem Ops.yl {f : Operand} {l : Nat} {xs : List Operand} {ats : Array TypeId} {vs : List Value} {A' : List Atom} (hf : ev L f = some (.func (.yield l) #[] #[])) (hx : evs L xs = some vs)
    (hc : ∀ w, Sat w0 w A → YCall P l vs.toArray w (fun w' => Sat w0 w' A')) (h : Ops P none ops Q w0 n D rest ((t, .bool true) :: L) A')
    (hg : gd ops L ⟨some t, .call ⟨.value f, xs.toArray, ats⟩, ty, pos, af, g⟩ = some true := by rfl) (ht : Nat.blt t n = true := by rfl) :
    Ops P none ops Q w0 n D (⟨some t, .call ⟨.value f, xs.toArray, ats⟩, ty, pos, af, g⟩ :: rest) L A := by
  intro a w hk hs
  unfold wpListIn
  rw [hk.gd hg]
  simp only [if_true]
  refine ⟨fun _ _ => trivial, ?_⟩
  obtain ⟨fn, tmps, asg, bd, h1, h2⟩ := hc w hs
  have e : xs.toArray.map a.eval = vs.toArray := by rw [List.map_toArray, evs_ok hk hx]
  have hrun : (execOp a.eval ⟨some t, .call ⟨.value f, xs.toArray, ats⟩, ty, pos, af, g⟩).run P w = .ok (.round l fn tmps asg bd) w := by
    simp only [execOp, resolve, e, hk.ev hf, Deferred.ofValue, Sem.run_bind, Sem.run_pure, Result.andThen_ok, invoke]
    simpa using h1
  rw [semAt_noDefer _ _ rfl, hrun, Oper.uponIn_round]
  refine ⟨fun hn => (by simp at hn), RoundIn.mono h2 (fun e w' he => ?_)⟩
  obtain ⟨rfl, hs'⟩ := he
  exact h _ _ (hk.put (by simpa [Nat.blt_eq] using ht) _) hs'
theorem roundPost_mono {l : Nat} {R R' : Ending → World → Prop} (hr : ∀ e w, R e w → R' e w) {e : Exit} {a : Act} {w : World} (h : roundPost P l R e a w) : roundPost P l R' e a w := by
  cases e with
  | normal => obtain ⟨v, w', h1, h2⟩ := h; exact ⟨v, w', h1, hr _ _ h2⟩
  | ret => obtain ⟨v, w', h1, h2⟩ := h; exact ⟨v, w', h1, hr _ _ h2⟩
  | exit id => obtain ⟨v, w', h1, h2⟩ := h; exact ⟨v, w', h1, hr _ _ h2⟩
  | goto t => obtain ⟨v, w', h1, h2⟩ := h; exact ⟨v, w', h1, hr _ _ h2⟩
  | panic ch => exact h
  | outgrown => exact h
def BeginK (P : Program) (l : Nat) (body : Code) (R : Ending → World → Prop) (a : Act) (w : World) : Prop :=
  ∃ w₂, (Instr.beginRound l).run P w = .ok () w₂ ∧ body.wpIn (Fw (some l)) 0 P (roundPost P l R) a w₂
theorem putObj_step {w : World} {a a' : Atom} {l : Nat} {o o' : Obj} {A : List Atom} (h : Sat w0 w (a :: A)) (ho : w.heap[l]? = some o) (hS : ∀ S, a.P w S → ∀ k, S k ↔ k = l) (ha : ∀ S, a.P w S → a'.P (w.putObj l o') S) : Sat w0 (w.putObj l o') (a' :: A) := by
  obtain ⟨S, hSa, _, hgo⟩ := h.step
  have hlt := (Array.getElem?_eq_some_iff.1 ho).1
  refine hgo (ha S hSa) (fun k hk => .inl hk) rfl rfl rfl (by simp [World.putObj]) (fun k _ hk => ?_)
  have hne : l ≠ k := fun e => hk ((hS S hSa k).2 e.symm)
  simp [World.putObj, hne]
theorem Cd.range {α : Type} {gop : Operand} {ps : List Nat} {assign body y : Code} {Q' : Exit → Act → World → Prop} {k : FuncId} {caps : List Value} {enc : α → List Value} {xs : List α} {X : List Atom} (J : List α → List Atom)
    (hI : Iter P k caps enc xs w0 X) (he : Enters P k) (hg : ev L gop = some (.func (.func k) #[] caps.toArray)) (hA : ∀ w, Sat w0 w A → Sat w0 w (J [] ++ X)) (hps : ps.all (fun p => Nat.blt p n) = true) (hsz : ∀ x, (enc x).length = ps.length)
    (hround : ∀ (l d : Nat) (Y : List Atom) (pre : List α) (x : α), (∃ post, pre ++ x :: post = xs) →
      Cd P (some l) assign (Exit.then (BeginK P l body (fun e w' => e = .returned (.bool true) ∧ Sat w0 w' (lrec .ready l n L ps assign body :: dblk d :: (J (pre ++ [x]) ++ Y)))) (fun _ _ _ => False)) w0 n [] (Lps ps (enc x) L) (lrec .ready l n L ps assign body :: dblk d :: (J pre ++ Y)))
    (hq : Q .normal = y.wpIn (Fw none) 0 P Q') (hnext : ∀ d, Cd P none y Q' w0 n (mark d :: D) L (dblk d :: (J xs ++ X))) : Cd P none (.rangeFunc gop ps.toArray assign body) Q w0 n D L A := by
  intro a w hk hs
  refine wpIn_rangeFunc (F := Fw none) ?_
  intro fn _
  have hs1 := hA w hs
  let w1 := (w.alloc (.deferred (some []))).alloc (.loop { state := .ready, pending := none, fn, tmps := a.tmps, params := ps.toArray, assign, body, defers := w.heap.size })
  have hsz1 : (w.alloc (.deferred (some []))).heap.size = w.heap.size + 1 := World.size_alloc ..
  have hs2 : Sat w0 (w.alloc (.deferred (some []))) (dblk w.heap.size :: (J [] ++ X)) :=
    hs1.add (Below.alloc (Below.refl _ _) (Nat.le_refl _) _) (S := fun k => k = w.heap.size) ⟨heap_alloc_new w _, fun _ => Iff.rfl⟩ (fun _ hk => by omega)
  have hkr : Kn n [] L ⟨a.tmps, []⟩ := ⟨hk.size, rfl, hk.look⟩
  have hs3 : Sat w0 w1 (lrec .ready (w.heap.size + 1) n L ps assign body :: dblk w.heap.size :: (J [] ++ X)) := by
    refine hs2.add (Below.alloc (Below.refl _ _) (Nat.le_refl _) _) (S := fun k => k = w.heap.size + 1) ⟨⟨fn, a.tmps, w.heap.size, ?_, hkr⟩, fun _ => Iff.rfl⟩ (fun _ hk => by omega)
    have := heap_alloc_new (w.alloc (.deferred (some []))) (.loop { state := .ready, pending := none, fn, tmps := a.tmps, params := ps.toArray, assign, body, defers := w.heap.size })
    rw [hsz1] at this
    exact this
  refine ⟨w.heap.size + 1, [mark w.heap.size], w1, ⟨.fn (.func k) caps.toArray, #[.func (.yield (w.heap.size + 1)) #[] #[]]⟩, w1, k, (.func (.yield (w.heap.size + 1)) #[] #[] :: caps).toArray, w1, run_enterLoop_outer .., ?_, fun _ _ => trivial, ?_, fun h => by simp at h, ?_⟩
  · have e1 : a.eval gop = .func (.func k) #[] caps.toArray := hk.ev hg
    simp only [resolve, e1, Deferred.ofValue]
    simp [Act.eval]
  · have := he (.func (.yield (w.heap.size + 1)) #[] #[] :: caps).toArray w1
    simpa [invoke] using this
  · have hb : Sat w0 w1 (bun (lrec .ready (w.heap.size + 1) n L ps assign body :: dblk w.heap.size :: J []) :: X) := Sat.bundle hs3
    have hc := hI (fun pre => lrec .ready (w.heap.size + 1) n L ps assign body :: dblk w.heap.size :: J pre) (w.heap.size + 1) w1 ?_ hb
    · refine callsIn_Fw (hc.mono fun e w' hh => ?_)
      obtain ⟨rfl, hs'⟩ := hh
      have hs' := hs'.unbundle
      obtain ⟨S, ⟨⟨fn', tmps', d', h1, h2⟩, h3⟩⟩ := hs'.mem .here
      refine ⟨none, _, run_endLoop h1 (by simp), ?_⟩
      simp only []
      rw [hq]
      refine hnext w.heap.size _ _ ⟨hk.size, by simp [hk.defers], hk.look⟩ ?_
      have h4 := putObj_step (a' := junk (w.heap.size + 1)) (o' := .loop { state := .exhausted, pending := none, fn := fn', tmps := tmps', params := ps.toArray, assign, body, defers := d' }) hs' h1 (fun S h => h.2) (fun S h => ⟨by
        have hlt := (Array.getElem?_eq_some_iff.1 h1).1
        simp [World.putObj, hlt], h.2⟩)
      exact h4.drop
    · intro Y pre x w' hpost hsy
      have hsy := hsy.unbundle
      obtain ⟨S, ⟨⟨fn', tmps', d', h1, h2⟩, h3⟩⟩ := hsy.mem .here
      refine ⟨fn', _, assign, body, run_yield h1 (by simp [hsz]), ?_⟩
      refine roundIn_of_wpIn (F := Fw none) trivial ?_
      have hkx := Kn.params ps (enc x) L tmps' (fun p hp => by simpa [Nat.blt_eq] using List.all_eq_true.1 hps p hp) h2
      have hr := hround (w.heap.size + 1) w.heap.size Y pre x hpost ⟨_, []⟩ w' hkx hsy
      have e : (ps.toArray.zip (enc x).toArray).foldl (fun (tmps : Array Value) (p : Nat × Value) => tmps.setIfInBounds p.1 p.2) tmps' = (ps.zip (enc x)).foldl (fun t p => t.setIfInBounds p.1 p.2) tmps' := by
        rw [List.zip_toArray, List.foldl_toArray]
      show Code.wpIn _ _ _ _ _ ⟨_, []⟩ w'
      rw [show (ps.toArray.zip (enc x).toArray).foldl (fun (tmps : Array Value) (x : Nat × Value) => match x with | (t, a) => tmps.setIfInBounds t a) tmps' = (ps.zip (enc x)).foldl (fun t p => t.setIfInBounds p.1 p.2) tmps' from e]
      refine wpIn_mono hr (fun e a1 w1 hh => ?_)
      cases e with
      | normal =>
        obtain ⟨w2, hb1, hb2⟩ := hh
        exact ⟨w2, hb1, wpIn_mono hb2 (fun e a w h => roundPost_mono (fun e w h => ⟨h.1, Sat.bundle h.2⟩) h)⟩
      | _ => exact hh
theorem endM {fn : Func} {R : Ending → World → Prop} {e : Exit} {xs : List ResultVar} {vs : List Value} {d : Nat} {A' : List Atom} (he : e = .ret ∨ e = .normal) (hr : fn.results = xs.toArray) (hv : Ress P w0 L A' xs vs) (hp : Pull A (dblk d) A')
    (h : ∀ w, Sat w0 w A' → R (.returned (joinV vs)) w) (a : Act) (w : World) (hk : Kn n [mark d] L a) (hs : Sat w0 w A) : bodyPostM (Fw none) 0 P fn R e a w := by
  have hs1 := hs.pull hp
  obtain ⟨S, h1, h2⟩ := hs.mem hp
  have h4 := putObj_step (a' := junk d) (o' := .deferred none) hs1 h1 (fun S h => h.2) (fun S h => ⟨by
    have hlt := (Array.getElem?_eq_some_iff.1 h1).1
    simp [World.putObj, hlt], h.2⟩)
  have hk0 : Kn n [] L ⟨a.tmps, []⟩ := ⟨hk.size, rfl, hk.look⟩
  have h5 := run_results (P := P) hk0 h4.drop hr hv
  have : LeavesInM (Fw none) 0 P fn a.tmps R a.defers .returning w := by
    rw [hk.defers]
    exact ⟨by simp, .inl ⟨d, _, rfl, run_takeDeferred h1, _, h5, h _ h4.drop⟩⟩
  rcases he with rfl | rfl <;> exact this
theorem Cd.rtM {r : Option Nat} {fn : Func} {R : Ending → World → Prop} {xs : List ResultVar} (vs : List Value) {d : Nat} {A' : List Atom} (hq : Q .ret = bodyPostM (Fw none) 0 P fn R .ret) (hr : fn.results = xs.toArray) (hv : Ress P w0 L A' xs vs) (hp : Pull A (dblk d) A')
    (h : ∀ w, Sat w0 w A' → R (.returned (joinV vs)) w) : Cd P r .ret Q w0 n [mark d] L A :=
  Cd.ret (fun a w hk hs => by rw [hq]; exact endM (.inl rfl) hr hv hp h a w hk hs)
theorem Cd.rt0 {r : Option Nat} {fn : Func} {R : Ending → World → Prop} {xs : List ResultVar} (vs : List Value) (hq : Q .ret = bodyPostM (Fw none) 0 P fn R .ret) (hr : fn.results = xs.toArray) (hv : Ress P w0 L A xs vs)
    (h : ∀ w, Sat w0 w A → R (.returned (joinV vs)) w) : Cd P r .ret Q w0 n [] L A :=
  Cd.ret (fun a w hk hs => by
    rw [hq]
    have h5 := run_results (P := P) hk hs hr hv
    show LeavesInM (Fw none) 0 P fn a.tmps R a.defers .returning w
    rw [hk.defers]
    exact ⟨_, h5, h _ hs⟩)
theorem rqM_here {fn : Func} {R : Ending → World → Prop} : bodyPostM (Fw none) 0 P fn R .ret = bodyPostM (Fw none) 0 P fn R .ret := rfl
end
end Go.Proofs.YtilcdghliigngaaGl
namespace Go.Proofs.Ytilcdghliigngaa
open Go.RowKit Go.Proofs.YtilcdghliigngaaGl Go.Proofs.YtilcdghliigngaaPm
set_option linter.unusedVariables false
set_option linter.unusedSimpArgs false
theorem mpT_176 : mpT Try.prog 176 = some (3, 30) := by kernel_rfl
def zvT (P : Program) (t : TypeId) : Option Value := (P.info? t).bind (·.zero)
theorem run_zv {P : Program} {t : TypeId} {v : Value} (h : zvT P t = some v) (w : World) : (zeroValue t).run P w = .ok v w := by
  unfold zvT at h
  cases hi : P.info? t with
  | none => rw [hi] at h; cases h
  | some i =>
    rw [hi] at h
    simp only [Option.bind_some] at h
    simp [zeroValue, typeInfo, hi, h]
theorem zv_30 : zvT Try.prog 30 = some (.slice none 0 0) := by kernel_rfl
structure WEnt where
  (key : Int) (a : Option Addr) (cap : Nat) (ss : List Syn)
abbrev kv (e : WEnt) : Int × Value := (e.key, .slice e.a e.ss.length e.cap)
abbrev wrow (e : WEnt) : Atom := row e.a e.cap 126 4 e.ss.length (e.ss.flatMap eSyn)
def filt (l : List Syn) (k : Int) : List Syn := l.filter (fun s => s.src == k)
def fi (E : List WEnt) (k : Int) : Option Nat := (findI k (E.map kv) 0).map (·.1)
structure WI (E : List WEnt) (l : List Syn) : Prop where
  has : ∀ k i, fi E k = some i → ∃ e, E[i]? = some e ∧ e.key = k ∧ e.ss = filt l k
  non : ∀ k, fi E k = none → filt l k = []
theorem findI_keys (k : Int) : ∀ (es es' : List (Int × Value)) (j : Nat), es.map (·.1) = es'.map (·.1) → (findI k es j).map (·.1) = (findI k es' j).map (·.1)
  | [], [], _, _ => rfl
  | [], _ :: _, _, h => by simp at h
  | _ :: _, [], _, h => by simp at h
  | (a, b) :: es, (a', b') :: es', j, h => by
    simp only [List.map_cons, List.cons.injEq] at h
    obtain ⟨h1, h2⟩ := h
    simp only [findI, ← h1]
    split
    · rfl
    · exact findI_keys k es es' (j + 1) h2
theorem findI_append (k : Int) (k' : Int) (v : Value) : ∀ (es : List (Int × Value)) (j : Nat), findI k (es ++ [(k', v)]) j = match findI k es j with | some r => some r | none => if k = k' then some (j + es.length, v) else none
  | [], j => by simp [findI]
  | (a, b) :: es, j => by
    simp only [List.cons_append, findI]
    by_cases h : k = a
    · simp [h]
    · simp only [h, if_false]
      rw [findI_append k k' v es (j + 1)]
      cases findI k es (j + 1) with
      | some r => rfl
      | none => simp only [List.length_cons]; rw [show j + 1 + es.length = j + (es.length + 1) by omega]
theorem fi_get {E : List WEnt} {k : Int} {i : Nat} {v : Value} (h : findI k (E.map kv) 0 = some (i, v)) : ∃ e, E[i]? = some e ∧ e.key = k ∧ v = .slice e.a e.ss.length e.cap := by
  have := findI_get k _ i v h
  rw [List.getElem?_map] at this
  cases he : E[i]? with
  | none => rw [he] at this; cases this
  | some e =>
    rw [he] at this
    simp only [Option.map_some, Option.some.injEq, Prod.mk.injEq] at this
    exact ⟨e, rfl, this.1, this.2.symm⟩
theorem filt_app (l : List Syn) (x : Syn) (k : Int) : filt (l ++ [x]) k = if x.src = k then filt l k ++ [x] else filt l k := by
  unfold filt; rw [List.filter_append]
  by_cases h : x.src = k <;> simp [h]
theorem WI.nil : WI [] [] := ⟨fun k i h => by simp [fi, findI] at h, fun k _ => rfl⟩
theorem WI.set {E : List WEnt} {l : List Syn} {x : Syn} {i c' : Nat} {a' : Option Addr} {e : WEnt} (h : WI E l) (hi : fi E x.src = some i) (he : E[i]? = some e) (hk : e.key = x.src) (hs : e.ss = filt l x.src) : WI (E.set i ⟨e.key, a', c', e.ss ++ [x]⟩) (l ++ [x]) := by
  have hkeys : ∀ k, fi (E.set i ⟨e.key, a', c', e.ss ++ [x]⟩) k = fi E k := fun k => by
    refine findI_keys k _ _ 0 ?_
    apply List.ext_getElem?
    intro j
    simp only [List.getElem?_map, List.getElem?_set]
    by_cases hj : i = j
    · subst hj
      obtain ⟨hlt, hge⟩ := List.getElem?_eq_some_iff.1 he
      simp [hlt, hge]
    · simp [hj]
  refine ⟨fun k j hj => ?_, fun k hn => ?_⟩
  · rw [hkeys] at hj
    obtain ⟨e2, h1, h2, h3⟩ := h.has k j hj
    rw [filt_app]
    by_cases hij : i = j
    · subst hij
      rw [he] at h1; obtain rfl := Option.some.inj h1
      have hlt := (List.getElem?_eq_some_iff.1 he).1
      refine ⟨⟨e.key, a', c', e.ss ++ [x]⟩, by simp [hlt], h2, ?_⟩
      rw [if_pos (by rw [← hk, h2])]
      simp [h3]
    · refine ⟨e2, by simp [List.getElem?_set, hij, h1], h2, ?_⟩
      rw [if_neg (fun hx => hij (by rw [hx] at hi; rw [hi] at hj; exact Option.some.inj hj)), h3]
  · rw [hkeys] at hn
    rw [filt_app, if_neg (fun hx => by rw [hx, hn] at hi; cases hi)]
    exact h.non k hn
theorem WI.app {E : List WEnt} {l : List Syn} {x : Syn} {c' : Nat} {a' : Option Addr} (h : WI E l) (hi : fi E x.src = none) : WI (E ++ [⟨x.src, a', c', [x]⟩]) (l ++ [x]) := by
  have hf : ∀ k, fi (E ++ [⟨x.src, a', c', [x]⟩]) k = match fi E k with | some r => some r | none => if k = x.src then some E.length else none := fun k => by
    unfold fi
    rw [List.map_append, List.map_cons, List.map_nil, findI_append]
    cases findI k (E.map kv) 0 with
    | some r => rfl
    | none => by_cases hk : k = x.src <;> simp [hk]
  refine ⟨fun k j hj => ?_, fun k hn => ?_⟩
  · rw [hf] at hj
    rw [filt_app]
    cases hk : fi E k with
    | some r =>
      rw [hk] at hj
      obtain rfl : r = j := Option.some.inj hj
      obtain ⟨e2, h1, h2, h3⟩ := h.has k r hk
      refine ⟨e2, by rw [List.getElem?_append_left (List.getElem?_eq_some_iff.1 h1).1]; exact h1, h2, ?_⟩
      rw [if_neg (fun hx => by rw [hx, hk] at hi; cases hi), h3]
    | none =>
      rw [hk] at hj
      simp only [] at hj
      split at hj
      · rename_i hkx
        obtain rfl := Option.some.inj hj
        refine ⟨⟨x.src, a', c', [x]⟩, by simp, hkx.symm, ?_⟩
        rw [if_pos hkx.symm, h.non k hk]; rfl
      · cases hj
  · rw [hf] at hn
    cases hk : fi E k with
    | some r => rw [hk] at hn; cases hn
    | none =>
      rw [hk] at hn
      simp only [] at hn
      split at hn
      · cases hn
      · rename_i hne
        rw [filt_app, if_neg (fun hx => hne hx.symm)]
        exact h.non k hk
theorem updI_set {E : List WEnt} {k : Int} {i : Nat} {e e' : WEnt} (hi : fi E k = some i) (he : E[i]? = some e) (hk : e'.key = e.key) : updI (E.map kv) k (kv e').2 = (E.set i e').map kv := by
  unfold updI
  unfold fi at hi
  cases hf : findI k (E.map kv) 0 with
  | none => rw [hf] at hi; cases hi
  | some p =>
    rw [hf] at hi
    obtain rfl : p.1 = i := Option.some.inj hi
    simp only []
    apply List.ext_getElem?
    intro j
    simp only [List.getElem?_map, List.getElem?_modify, List.getElem?_set]
    by_cases hj : p.1 = j
    · subst hj
      obtain ⟨hlt, hge⟩ := List.getElem?_eq_some_iff.1 he
      simp [hlt, hge, hk]
    · simp [hj]
theorem updI_app {E : List WEnt} {k : Int} {e' : WEnt} (hi : fi E k = none) (hk : e'.key = k) : updI (E.map kv) k (kv e').2 = (E ++ [e']).map kv := by
  unfold updI
  unfold fi at hi
  cases hf : findI k (E.map kv) 0 with
  | none => simp [hk]
  | some p => rw [hf] at hi; cases hi
theorem updI_set' {E : List WEnt} {k : Int} {i n : Nat} {e e' : WEnt} (hi : fi E k = some i) (he : E[i]? = some e) (hk : e'.key = e.key) (hn : n = e'.ss.length) : updI (E.map kv) k (.slice e'.a n e'.cap) = (E.set i e').map kv := by
  subst hn; exact updI_set hi he hk
theorem updI_app' {E : List WEnt} {k : Int} {n : Nat} {e' : WEnt} (hi : fi E k = none) (hk : e'.key = k) (hn : n = e'.ss.length) : updI (E.map kv) k (.slice e'.a n e'.cap) = (E ++ [e']).map kv := by
  subst hn; exact updI_app hi hk
theorem wrow_app (key : Int) (a : Option Addr) (c : Nat) (ss : List Syn) (x : Syn) : wrow ⟨key, a, c, ss ++ [x]⟩ = row a c 126 4 (ss.length + 1) (ss.flatMap eSyn ++ eSyn x) := by
  simp [wrow]
theorem wrow_one (key : Int) (a : Option Addr) (c : Nat) (x : Syn) : wrow ⟨key, a, c, [x]⟩ = row a c 126 4 (0 + 1) ([] ++ eSyn x) := by
  simp [wrow]
theorem pull_get {α : Type} {f : α → Atom} : ∀ {E : List α} {i : Nat} {e : α}, E[i]? = some e → Pull (E.map f) (f e) ((E.eraseIdx i).map f)
  | [], i, e, h => by simp at h
  | x :: E, 0, e, h => by obtain rfl : x = e := by simpa using h
                          exact .here
  | x :: E, i + 1, e, h => .there (pull_get (by simpa using h))
theorem pull_set {α : Type} {f : α → Atom} : ∀ {E : List α} {i : Nat} {e e' : α}, E[i]? = some e → Pull ((E.set i e').map f) (f e') ((E.eraseIdx i).map f)
  | [], i, e, _, h => by simp at h
  | x :: E, 0, e, _, h => .here
  | x :: E, i + 1, e, _, h => .there (pull_set (by simpa using h))
theorem pull_last {α : Type} {f : α → Atom} {e : α} : ∀ {E : List α}, Pull ((E ++ [e]).map f) (f e) (E.map f)
  | [] => .here
  | _ :: _ => .there pull_last
theorem look_fi {E : List WEnt} {k : Int} {i : Nat} {e : WEnt} (hi : fi E k = some i) (he : E[i]? = some e) : looki (E.map kv) k = some (.slice e.a e.ss.length e.cap) := by
  unfold fi at hi
  cases hf : findI k (E.map kv) 0 with
  | none => rw [hf] at hi; cases hi
  | some p =>
    rw [hf] at hi
    obtain rfl : p.1 = i := Option.some.inj hi
    obtain ⟨e2, h1, h2, h3⟩ := fi_get (i := p.1) (v := p.2) hf
    rw [he] at h1; obtain rfl := Option.some.inj h1
    simp [looki, hf, h3]
theorem look_none {E : List WEnt} {k : Int} (hi : fi E k = none) : looki (E.map kv) k = none := by
  unfold fi at hi
  unfold looki
  cases hf : findI k (E.map kv) 0 with
  | none => rfl
  | some p => rw [hf] at hi; cases hi
def wφ (M : Nat) (E : List WEnt) (w : World) : Prop := (∃ l c, w.heap[M]? = some (.map l c) ∧ ents l.toList (E.map kv)) ∧ ∀ e ∈ E, RoL w e.a eSyn e.ss
theorem rows_ro {w : World} : ∀ {E : List WEnt} {S : Nat → Prop}, Sats w (E.map wrow) S → ∀ e ∈ E, RoL w e.a eSyn e.ss
  | [], _, _, _, h => by cases h
  | x :: E, S, ⟨S1, S2, h1, h2, _, _⟩, e, he => by
    rcases List.mem_cons.1 he with rfl | he
    · exact ro_of_own h1.1
    · exact rows_ro h2 e he
theorem wfreeze {w0 w : World} {M : Nat} {E : List WEnt} (h : Sat w0 w (imap M (E.map kv) :: E.map wrow)) : Sat w0 w [rd (wφ M E)] := by
  have h1 : Sat w0 w (bun (imap M (E.map kv) :: E.map wrow) :: []) := Sat.bundle (by simpa using h)
  exact h1.freeze (fun w S hS => by
    obtain ⟨S1, S2, ⟨⟨l, c, a1, a2⟩, _⟩, a3, _, _⟩ := hS
    exact ⟨⟨l, c, a1, a2⟩, rows_ro a3⟩)
theorem wl_get {E : List WEnt} {l : List Syn} (h : WI E l) (k : Int) : ∃ a c, (looki (E.map kv) k = some (.slice a (filt l k).length c) ∨ looki (E.map kv) k = none ∧ (.slice a (filt l k).length c : Value) = .slice none 0 0) ∧
    ∀ M w, wφ M E w → RoL w a eSyn (filt l k) := by
  cases hf : fi E k with
  | some i =>
    obtain ⟨e, h1, h2, h3⟩ := h.has k i hf
    refine ⟨e.a, e.cap, .inl ?_, fun M w hw => ?_⟩
    · rw [look_fi hf h1, h3]
    · rw [← h3]; exact hw.2 e (List.mem_iff_getElem?.2 ⟨i, h1⟩)
  | none =>
    have hn := h.non k hf
    refine ⟨none, 0, .inr ⟨look_none hf, by rw [hn]; rfl⟩, fun M w _ => ?_⟩
    rw [hn]; exact Ro.nil w none
theorem wired_c (na : Option Addr) (nc : Nat) (sa : Option Addr) (sc : Nat) (ns : List Prm) (ip : Int) (ss : List Syn) (w : World) (hS : RoL w sa eSyn ss) (hm : ss.length ≤ 8192) : Calls Try.prog 98 [.agg [.slice na ns.length nc, .int .i64 ip, .slice sa ss.length sc].toArray].toArray w fun e w' => ∃ M E, e = .returned (.map (some M)) ∧ WI E ss ∧ Sat w w' [rd (wφ M E)] := by
  refine fstart Try.func98 rfl rfl (Sat.nil w) ?_
  refine Cd.seq ?_
  refine Cd.region ?_
  refine Ops.box [.slice na ns.length nc, .int .i64 ip, .slice sa ss.length sc] rfl rfl ?_
  intro b1
  refine Ops.q (q_asg rfl) ?_
  refine Ops.to rfl ?_
  refine Cd.seq ?_
  refine Cd.region ?_
  refine Ops.mkm ?_
  intro b2
  refine Ops.q (q_asg rfl) ?_
  refine Ops.to rfl ?_
  refine Cd.seq ?_
  refine Cd.seq ?_
  refine Cd.region ?_
  refine Ops.q (q_fa fo_32_2 rfl) ?_
  refine Ops.q (q_ldB isA_30 rfl (.there .here) rfl) ?_
  refine Ops.q (q_len esz_30 rfl) ?_
  refine Ops.q (q_mv rfl) ?_
  refine Ops.to rfl ?_
  refine Cd.block ?_
  refine Cd.lp (σ := Nat × List WEnt) (fun s => s.1 ≤ ss.length ∧ WI s.2 (ss.take s.1)) (fun s => [(3, .map (some b2)), (8, .slice sa ss.length sc), (9, .int .i64 (ss.length : Int)), (10, .int .i64 (s.1 : Int))]) (fun s => imap b2 (s.2.map kv) :: s.2.map wrow) (fun s => ss.length - s.1) (0, []) ⟨Nat.zero_le _, WI.nil⟩ ⟨rfl, rfl, rfl, rfl, trivial⟩ (fun _ hs => (hs.pull .here).only .here) ?_
  intro s hI
  have hI1 := hI.1
  refine Cd.seq ?_
  refine Cd.region ?_
  by_cases h3 : (s.1 : Int) < (ss.length : Int)
  · refine Ops.q (q_cmp rfl rfl (c_lt h3)) ?_
    obtain ⟨x4, hx5⟩ : ∃ x, ss[s.1]? = some x := ⟨_, List.getElem?_eq_getElem (by omega)⟩
    obtain ⟨ab6, ao7, rfl⟩ := RoL.pos hS eSyn_len hx5
    refine Ops.to rfl ?_
    refine Cd.seq ?_
    refine Cd.cond_t rfl ?_
    refine Cd.skipTo rfl ?_
    refine Cd.seq ?_
    refine Cd.block ?_
    refine Cd.seq ?_
    refine Cd.region ?_
    refine Ops.q (q_ix (k := s.1) esz_30 rfl rfl (by omega)) ?_
    refine Ops.q (q_ldRN [.int .i64 x4.src, .int .i64 x4.dst, .int .i64 x4.wt, .int .i64 x4.dl] isA_126 sz_126 rfl (fun j u hu => hS.at eSyn_len hx5 hu)) ?_
    refine Ops.alc [.int .i64 0, .int .i64 0, .int .i64 0, .int .i64 0] zc_126 ?_
    intro b8
    refine Ops.stB [.int .i64 x4.src, .int .i64 x4.dst, .int .i64 x4.wt, .int .i64 x4.dl] [.int .i64 x4.src, .int .i64 x4.dst, .int .i64 x4.wt, .int .i64 x4.dl] sz_126 rfl rfl rfl (one rfl) .here rfl rfl ?_
    refine Ops.to rfl ?_
    cases hf : fi s.2 x4.src with
    | some i =>
      obtain ⟨e, he, hek, hes⟩ := hI.2.has _ _ hf
      have hel : e.ss.length ≤ ss.length := by rw [hes]; exact Nat.le_trans (List.length_filter_le _ _) (by rw [List.length_take]; omega)
      refine Cd.pull (Pull.right (X := s.2.map wrow) (pull_get he) [blk b8 126 [.int .i64 x4.src, .int .i64 x4.dst, .int .i64 x4.wt, .int .i64 x4.dl], imap b2 (s.2.map kv)]) ?_
      refine Cd.draw rfl (by kernel_rfl) (.cons (.there .here) (.cons (.there .here) .nil)) ?_
      intro F9 St10 hP11 hF12 hR13
      refine Dr.q (i := 0) hP11 rfl (by kernel_rfl) (q_mv rfl) ?_
      refine Dr.q (i := 1) hP11 rfl (by kernel_rfl) (q_fa fo_126_0 rfl) ?_
      refine Dr.q (i := 2) hP11 rfl (by kernel_rfl) (q_ldB isA_3 rfl .here rfl) ?_
      refine Dr.q (i := 3) hP11 rfl (by kernel_rfl) (q_mv rfl) ?_
      refine Dr.q (i := 4) hP11 rfl (by kernel_rfl) (q_fa fo_126_0 rfl) ?_
      refine Dr.q (i := 5) hP11 rfl (by kernel_rfl) (q_ldB isA_3 rfl .here rfl) ?_
      refine Dr.q (i := 6) hP11 rfl (by kernel_rfl) (q_look mpT_176 iK_3 rfl rfl (.there .here) (.inl (look_fi hf he))) ?_
      refine Dr.q (i := 7) hP11 rfl (by kernel_rfl) (q_ldBN [.int .i64 x4.src, .int .i64 x4.dst, .int .i64 x4.wt, .int .i64 x4.dl] isA_126 sz_126 rfl .here rfl) ?_
      refine Dr.e (i := 8) rfl (by kernel_rfl) ?_
      refine Ops.lit [.int .i64 x4.src, .int .i64 x4.dst, .int .i64 x4.wt, .int .i64 x4.dl] el_30 zsb_126 rfl rfl ⟨by decide, by decide⟩ rfl ?_
      intro b14
      refine Dr.back (fun _ hs => hF12 (.there .here) hs) ?_
      refine Dr.e (i := 9) rfl (by kernel_rfl) ?_
      refine Ops.app (news := [.int .i64 x4.src, .int .i64 x4.dst, .int .i64 x4.wt, .int .i64 x4.dl]) el_30 zsb_126 (by decide) rfl rfl (fun _ hs => hs.ownRo .here) (fun _ hs => (hs.pull .here).drop) (fun _ _ => (.there .here)) rfl (one rfl) (by omega) (by omega) ?_
      intro a15 c16
      refine Dr.back (fun _ hs => hF12 .here hs) ?_
      refine Dr.tail 10 (by kernel_rfl) ?_
      refine Ops.sat ?_ (fun _ hs => hR13 .here hs)
      refine Ops.mpu mpT_176 iK_3 rfl rfl rfl (.there .here) ?_
      refine Ops.to rfl ?_
      refine Cd.region ?_
      refine Ops.q (q_ar rfl rfl (a_inc (by omega))) ?_
      refine Ops.q (q_mv rfl) ?_
      refine Ops.rnd ((s.1 + 1, s.2.set i ⟨e.key, a15, c16, e.ss ++ [x4]⟩)) rfl (⟨by omega, by rw [List.take_add_one, hx5]; exact hI.2.set hf he hek hes⟩) (by simp; omega) ⟨rfl, rfl, rfl, rfl, trivial⟩ (fun _ hs => by have h1 := ((hs.pull .here).drop.pull (.there .here)); have h2 := updI_set' (n := e.ss.length + 1) (e' := ⟨e.key, a15, c16, e.ss ++ [x4]⟩) hf he rfl (by simp); rw [h2] at h1; have h3 := wrow_app e.key a15 c16 e.ss x4; exact Sat.push (a := wrow ⟨e.key, a15, c16, e.ss ++ [x4]⟩) (by rw [h3]; exact h1) (.there (pull_set he))) 
    | none =>
      refine Cd.draw rfl (by kernel_rfl) (.cons .here (.cons .here .nil)) ?_
      intro F17 St18 hP19 hF20 hR21
      refine Dr.q (i := 0) hP19 rfl (by kernel_rfl) (q_mv rfl) ?_
      refine Dr.q (i := 1) hP19 rfl (by kernel_rfl) (q_fa fo_126_0 rfl) ?_
      refine Dr.q (i := 2) hP19 rfl (by kernel_rfl) (q_ldB isA_3 rfl .here rfl) ?_
      refine Dr.q (i := 3) hP19 rfl (by kernel_rfl) (q_mv rfl) ?_
      refine Dr.q (i := 4) hP19 rfl (by kernel_rfl) (q_fa fo_126_0 rfl) ?_
      refine Dr.q (i := 5) hP19 rfl (by kernel_rfl) (q_ldB isA_3 rfl .here rfl) ?_
      refine Dr.q (i := 6) hP19 rfl (by kernel_rfl) (q_look mpT_176 iK_3 rfl rfl (.there .here) (.inr ⟨look_none hf, run_zv zv_30⟩)) ?_
      refine Dr.q (i := 7) hP19 rfl (by kernel_rfl) (q_ldBN [.int .i64 x4.src, .int .i64 x4.dst, .int .i64 x4.wt, .int .i64 x4.dl] isA_126 sz_126 rfl .here rfl) ?_
      refine Dr.e (i := 8) rfl (by kernel_rfl) ?_
      refine Ops.lit [.int .i64 x4.src, .int .i64 x4.dst, .int .i64 x4.wt, .int .i64 x4.dl] el_30 zsb_126 rfl rfl ⟨by decide, by decide⟩ rfl ?_
      intro b22
      refine Dr.back (fun _ hs => hF20 (.there .here) hs) ?_
      refine Dr.e (i := 9) rfl (by kernel_rfl) ?_
      refine Ops.nilRow 126 4 ?_
      refine Ops.app (news := [.int .i64 x4.src, .int .i64 x4.dst, .int .i64 x4.wt, .int .i64 x4.dl]) el_30 zsb_126 (by decide) rfl rfl (fun _ hs => hs.ownRo (.there .here)) (fun _ hs => (hs.pull (.there .here)).drop) (fun _ _ => .here) rfl (one rfl) (by omega) (by omega) ?_
      intro a23 c24
      refine Dr.back (fun _ hs => hF20 (.there .here) hs) ?_
      refine Dr.tail 10 (by kernel_rfl) ?_
      refine Ops.sat ?_ (fun _ hs => hR21 (.there .here) hs)
      refine Ops.mpu mpT_176 iK_3 rfl rfl rfl (.there .here) ?_
      refine Ops.to rfl ?_
      refine Cd.region ?_
      refine Ops.q (q_ar rfl rfl (a_inc (by omega))) ?_
      refine Ops.q (q_mv rfl) ?_
      refine Ops.rnd ((s.1 + 1, s.2 ++ [⟨x4.src, a23, c24, [x4]⟩])) rfl (⟨by omega, by rw [List.take_add_one, hx5]; exact hI.2.app hf⟩) (by simp; omega) ⟨rfl, rfl, rfl, rfl, trivial⟩ (fun _ hs => by have h1 := ((hs.pull .here).drop.pull (.there .here)); have h2 := updI_app' (n := 0 + 1) (e' := ⟨x4.src, a23, c24, [x4]⟩) hf rfl (by simp); rw [h2] at h1; have h3 := wrow_one x4.src a23 c24 x4; exact Sat.push (a := wrow ⟨x4.src, a23, c24, [x4]⟩) (by rw [h3]; exact h1) (.there pull_last)) 
  · refine Ops.q (q_cmp rfl rfl (c_nlt (by omega))) ?_
    refine Ops.to rfl ?_
    refine Cd.seq ?_
    refine Cd.cond_f rfl ?_
    refine Cd.exitTo rfl ?_
    refine Cd.seq ?_
    refine Cd.region ?_
    refine Ops.q (q_mv rfl) ?_
    refine Ops.q (q_asg rfl) ?_
    refine Ops.to rfl ?_
    refine Cd.rt (fn := Try.f98) [.map (some b2)] (by with_reducible repeat (first | exact rq_here | apply rq_then | apply rq_block)) rfl ⟨rfl, trivial⟩ ?_
    intro w' hs
    exact ⟨_, _, rfl, by have := hI.2; rwa [List.take_of_length_le (by omega)] at this, wfreeze hs⟩
end Go.Proofs.Ytilcdghliigngaa
namespace Go.Proofs.YtilcdghliigngaaGl
set_option linter.unusedVariables false
set_option linter.unusedSimpArgs false
open Go.RowKit
theorem ble_ok {a b : Nat} (h : a ≤ b) : Nat.ble a b = true := by rw [Nat.ble_eq]; exact h
def eB2 (ops : Array Oper) (listed : Array Bool) (i j : Nat) : Bool := Region.ready .any ops listed == [i, j]
section
variable {P : Program} {r : Option Nat} {ops : Array Oper} {Q : Exit → Act → World → Prop} {w0 : World} {n : Nat} {D : List Deferred} {rest : List Oper} {L : Env} {A : List Atom}
variable {t : Nat} {ty : TypeId} {pos : String} {af : Array Edge} {g : Option (Nat × Bool)}
variable {St : World → Prop} {K : Act → World → Prop} {f : Nat} {listed : Array Bool}
theorem Dr.e2 {i j : Nat} {o o' : Oper} (hi : ops[i]? = some o) (hj : ops[j]? = some o') (hB : eB2 ops listed i j = true)
    (h : Ops P r ops (NQ (fun a w => St w ∧ (Region.noSelect ops = true → plainB ops = true → wpK P r ops St K f (listed.setIfInBounds i true) a w))) w0 n D [o] L A)
    (h' : Ops P r ops (NQ (fun a w => St w ∧ (Region.noSelect ops = true → plainB ops = true → wpK P r ops St K f (listed.setIfInBounds j true) a w))) w0 n D [o'] L A) : Dr P r ops St K w0 n D (f + 1) listed L A := by
  intro a w hk hs hst hsel hpl
  simp only [eB2, beq_iff_eq] at hB
  refine .inl ⟨fun h => (by rw [hB] at h; cases h), fun q hq => ?_⟩
  rw [hB] at hq
  have key : ∀ (i : Nat) (o : Oper), ops[i]? = some o → Ops P r ops (NQ (fun a w => St w ∧ (Region.noSelect ops = true → plainB ops = true → wpK P r ops St K f (listed.setIfInBounds i true) a w))) w0 n D [o] L A →
      wpOpIn (Fw r) 0 P ops (fun _ _ _ => False) i (fun a w => St w ∧ wpK P r ops St K f (listed.setIfInBounds i true) a w) a w := by
    intro i o hi h
    have h1 := h a w hk hs
    have h2 : wpOpIn (Fw r) 0 P ops (NQ (fun a w => St w ∧ (Region.noSelect ops = true → plainB ops = true → wpK P r ops St K f (listed.setIfInBounds i true) a w))) i
        (fun a w => St w ∧ (Region.noSelect ops = true → plainB ops = true → wpK P r ops St K f (listed.setIfInBounds i true) a w)) a w := by
      unfold wpListIn at h1
      unfold wpOpIn
      simp only [hi]
      exact h1
    exact oper_Q (fun a w (h : St w ∧ (Region.noSelect ops = true → plainB ops = true → wpK P r ops St K f (listed.setIfInBounds i true) a w)) => ⟨h.1, h.2 hsel hpl⟩) h2
  rcases List.mem_cons.1 hq with rfl | hq
  · exact key _ _ hi h
  · obtain rfl := List.mem_singleton.1 hq
    exact key _ _ hj h'
theorem xq_here {fn : Func} {R : Ending → World → Prop} : bodyPost P fn R .normal = bodyPost P fn R .normal := rfl
theorem xq_then {K : Act → World → Prop} {Q : Exit → Act → World → Prop} {X : Act → World → Prop} {id : Nat} (h : Q (.exit id) = X) : Exit.then K Q (.exit id) = X := h
theorem xq_block {id : Nat} {Q : Exit → Act → World → Prop} {X : Act → World → Prop} (h : Q .normal = X) : Exit.inBlock id Q (.exit id) = X := by
  rw [← h]; unfold Exit.inBlock; simp
theorem nq_block {id : Nat} {Q : Exit → Act → World → Prop} {X : Act → World → Prop} (h : Q .normal = X) : Exit.inBlock id Q .normal = X := h
theorem q_ixA {s : TypeId} {x y : Operand} {z m b o k : Nat} {kd : IntKind} (hz : asz P s = some (m, z)) (hx : ev L x = some (.pointer (some ⟨b, o, none⟩))) (hy : ev L y = some (.int kd (k : Int))) (hk : k < m)
    : Qv P w0 n D L A (.indexAddr s x y) (.pointer (some ⟨b, o + k * z, none⟩)) := fun a w hk' _ _ _ _ _ _ => ⟨by
    unfold asz at hz
    cases hu : P.underlying s with
    | none => rw [hu] at hz; cases hz
    | some d =>
      rw [hu] at hz
      cases d <;> try (cases hz; done)
      rename_i n' e
      obtain ⟨i', hi, he⟩ := Option.map_eq_some_iff.1 hz
      simp only [Prod.mk.injEq] at he
      obtain ⟨rfl, rfl⟩ := he
      have h0 : 0 ≤ (k : Int) ∧ (k : Int) < (n' : Int) := by omega
      simp [execOp, hk'.ev hx, hk'.ev hy, Instr.indexAt, asIntOf, run_underlying hu, Instr.sureAddr, h0, hk, sizeOf, typeInfo, hi, add_at], rfl⟩
theorem q_nilS {T E tz : TypeId} {x y : Operand} {a : Option Addr} {m c m' c' : Nat} (hT : elT P T = some E) (hx : ev L x = some (.slice a m c)) (hy : ev L y = some (.slice none m' c')) : Qv P w0 n D L A (.binOp .eql T x y tz) (.bool a.isNone) := fun ac w hk _ _ _ _ _ _ => ⟨by
    have h1 := Lib.run_eql_slice_nil (P := P) w T E a m c m' c' (elT_u hT)
    have h2 : (eqGuard .eql T x y (.slice a m c) (.slice none m' c')).run P w = .ok () w := by simp [eqGuard, run_program]
    simp only [execOp, hk.ev hx, hk.ev hy, Sem.run_bind, h2, Result.andThen_ok, h1, Sem.run_pure], rfl⟩
end
end Go.Proofs.YtilcdghliigngaaGl
namespace Go.Proofs.Ytilcdghliigngaa
open Go.RowKit Go.Proofs.YtilcdghliigngaaGl Go.Proofs.YtilcdghliigngaaPm
set_option linter.unusedVariables false
set_option linter.unusedSimpArgs false
abbrev rcell (n : Nat) (q : Nat × List Int) : Value := .slice (some ⟨q.1, 0, none⟩) n n
abbrev rrow (n : Nat) (q : Nat × List Int) : Atom := row (some ⟨q.1, 0, none⟩) n 3 1 n (q.2.flatMap eInt)
theorem rep_st (n : Nat) : rep n [Value.int .i64 0, .int .i64 0] = (List.replicate n (⟨0, 0⟩ : Stt)).flatMap eStt := by
  induction n with
  | zero => rfl
  | succ n ih => rw [show rep (n + 1) [Value.int .i64 0, .int .i64 0] = [Value.int .i64 0, .int .i64 0] ++ rep n [Value.int .i64 0, .int .i64 0] by simp [rep, List.replicate_succ], ih, List.replicate_succ, List.flatMap_cons]; rfl
theorem rep_int (n : Nat) : rep n [Value.int .i64 0] = (List.replicate n (0 : Int)).flatMap eInt := by
  induction n with
  | zero => rfl
  | succ n ih => rw [show rep (n + 1) [Value.int .i64 0] = [Value.int .i64 0] ++ rep n [Value.int .i64 0] by simp [rep, List.replicate_succ], ih, List.replicate_succ, List.flatMap_cons]; rfl
abbrev simA (S : Nat) (na : Option Addr) (nc : Nat) (sa : Option Addr) (sc : Nat) (ns : List Prm) (ip : Int) (m : Nat) (M : Nat) (E : List WEnt) (now : Nat) (B : Nat) (sts : List Stt) (q : List (Nat × List Int)) (F : List Atom) : List Atom :=
  blk S 182 ([.slice na ns.length nc, .int .i64 ip, .slice sa m sc, .map (some M), .int .i64 (now : Int), .slice (some ⟨B, 0, none⟩) ns.length ns.length] ++ q.map (rcell ns.length)) ::
  row (some ⟨B, 0, none⟩) ns.length 184 2 ns.length (sts.flatMap eStt) :: row na nc 116 8 ns.length (ns.flatMap ePrm) :: rd (wφ M E) :: (F ++ q.map (rrow ns.length))
theorem clone_c (b o nc : Nat) (ns : List Prm) (w : World) (hN : RoL w (some ⟨b, o, none⟩) ePrm ns) (hn : ns.length ≤ 1024) : Calls Try.prog 97 [.slice (some ⟨b, o, none⟩) ns.length nc].toArray w fun e w' => ∃ p : Option Addr × Nat, e = .returned (.slice p.1 ns.length p.2) ∧ Sat w w' [row p.1 p.2 116 8 ns.length (ns.flatMap ePrm)] := by
  refine fstart Try.func97 rfl rfl (Sat.nil w) ?_
  refine Cd.seq ?_
  refine Cd.region ?_
  refine Ops.q (q_asg rfl) ?_
  refine Ops.to rfl ?_
  refine Cd.seq ?_
  refine Cd.seq ?_
  refine Cd.region ?_
  refine Ops.q (q_mv rfl) ?_
  refine Ops.q (q_nilS el_29 rfl rfl) ?_
  refine Ops.to rfl ?_
  refine Cd.cond_f rfl ?_
  refine Cd.skipTo rfl ?_
  refine Cd.seq ?_
  refine Cd.region ?_
  refine Ops.lit [] el_29 zsb_116 rfl rfl ⟨by decide, by decide⟩ rfl ?_
  intro b1
  refine Ops.q (q_mv rfl) ?_
  refine Ops.app (news := (ns.flatMap ePrm)) el_29 zsb_116 (by decide) rfl rfl (fun _ hs => hN.later hs.below) (fun _ hs => hs) (fun _ _ => .here) (fm_length ePrm_len ns) (fm_one ePrm_one ns) (by omega) (by omega) ?_
  intro a2 c3
  refine Ops.q (q_asg rfl) ?_
  refine Ops.to rfl ?_
  refine Cd.rt (fn := Try.f97) [.slice a2 (0 + ns.length) c3] (by with_reducible repeat (first | exact rq_here | apply rq_then | apply rq_block)) rfl ⟨rfl, trivial⟩ ?_
  intro w' hs'
  exact ⟨(a2, c3), by simp [joinV], by simpa using hs'.only .here⟩
theorem set_nil {α : Type} {pre xs : List α} {v z : α} {n o : Nat} (hn : n = xs.length) (hk : n + 1 ≤ 16) (ho : o = pre.length + n * 1) : (pre ++ (xs ++ List.replicate (16 - n) z)).take o ++ [v] ++ (pre ++ (xs ++ List.replicate (16 - n) z)).drop (o + 1) = pre ++ (xs ++ (v :: List.replicate (15 - n) z)) := by
  subst hn
  obtain ⟨j, hj⟩ : ∃ j, 16 - xs.length = j + 1 := ⟨16 - xs.length - 1, by omega⟩
  have hj2 : 15 - xs.length = j := by omega
  rw [hj, hj2, List.replicate_succ]
  subst ho
  have e : (pre ++ (xs ++ z :: List.replicate j z)) = (pre ++ xs) ++ z :: List.replicate j z := by simp
  have l : pre.length + xs.length * 1 = (pre ++ xs).length := by simp
  rw [e, l, List.take_left, List.drop_append]
  simp
theorem ring_add {n : Nat} {w0 w : World} {t S b : Nat} {tcs pre : List Value} {B N R : Atom} {q : List (Nat × List Int)} {T : TypeId} (h : Sat w0 w (blk t T tcs :: blk S 182 (pre ++ (q.map (rcell n) ++ (.slice (some ⟨b, 0, none⟩) n n :: List.replicate (15 - q.length) (.slice none 0 0)))) :: B :: N :: R :: row (some ⟨b, 0, none⟩) n 3 1 n ((List.replicate n (0 : Int)).flatMap eInt) :: q.map (rrow n))) (hq : q.length < 16) :
    Sat w0 w (blk t T tcs :: blk S 182 (pre ++ ((q ++ [(b, List.replicate n 0)]).map (rcell n) ++ List.replicate (16 - (q ++ [(b, List.replicate n (0 : Int))]).length) (.slice none 0 0))) :: B :: N :: R :: (q ++ [(b, List.replicate n 0)]).map (rrow n)) := by
  have e : (q ++ [(b, List.replicate n (0 : Int))]).map (rcell n) ++ List.replicate (16 - (q ++ [(b, List.replicate n (0 : Int))]).length) (.slice none 0 0 : Value) = q.map (rcell n) ++ (.slice (some ⟨b, 0, none⟩) n n :: List.replicate (15 - q.length) (.slice none 0 0)) := by
    rw [List.map_append, List.length_append, List.append_assoc]
    simp only [List.map_cons, List.map_nil, List.length_cons, List.length_nil]
    rw [show 16 - (q.length + (0 + 1)) = 15 - q.length by omega]
    rfl
  rw [e]
  have h1 := h.pull (.there (.there (.there (.there (.there .here)))))
  exact Sat.push h1 (.there (.there (.there (.there (.there pull_last)))))
theorem start_c (b o nc : Nat) (sa : Option Addr) (sc : Nat) (ns : List Prm) (ip : Int) (ss : List Syn) (w : World) (hN : RoL w (some ⟨b, o, none⟩) ePrm ns) (hS : RoL w sa eSyn ss) (hn : ns.length ≤ 1024) (hm : ss.length ≤ 8192) :
    Calls Try.prog 76 [.agg [.slice (some ⟨b, o, none⟩) ns.length nc, .int .i64 ip, .slice sa ss.length sc].toArray].toArray w fun e w' => ∃ S na nc' M E B q, e = .returned (.pointer (some ⟨S, 0, none⟩)) ∧ WI E ss ∧ q.length = 16 ∧ (∀ x ∈ q, x.2 = List.replicate ns.length 0) ∧ Sat w w' (simA S na nc' sa sc ns ip ss.length M E 0 B (List.replicate ns.length ⟨0, 0⟩) q []) := by
  refine fstart Try.func76 rfl rfl (Sat.nil w) ?_
  refine Cd.seq ?_
  refine Cd.region ?_
  refine Ops.box [.slice (some ⟨b, o, none⟩) ns.length nc, .int .i64 ip, .slice sa ss.length sc] rfl rfl ?_
  intro b1
  refine Ops.q (q_asg rfl) ?_
  refine Ops.to rfl ?_
  refine Cd.seq ?_
  refine Cd.region ?_
  refine Ops.q (q_fa fo_32_0 rfl) ?_
  refine Ops.q (q_ldB isA_29 rfl .here rfl) ?_
  refine Ops.cl en_97 rfl (fun w hs => clone_c _ _ _ ns w (hN.later hs.below) hn) ?_
  intro p2
  refine Ops.q (q_fa fo_32_0 rfl) ?_
  refine Ops.stB [.slice p2.1 ns.length p2.2] [.slice p2.1 ns.length p2.2, .int .i64 ip, .slice sa ss.length sc] sz_29 rfl rfl rfl (one rfl) (.there .here) rfl rfl ?_
  refine Ops.to rfl ?_
  refine Cd.seq ?_
  refine Cd.draw rfl (by kernel_rfl) (.cons (.there .here) .nil) ?_
  intro F3 St4 hP5 hF6 hR7
  refine Dr.q (i := 0) hP5 rfl (by kernel_rfl) (q_ldBN [.slice p2.1 ns.length p2.2, .int .i64 ip, .slice sa ss.length sc] isA_32 sz_32 rfl .here rfl) ?_
  refine Dr.q (i := 1) hP5 rfl (by kernel_rfl) (q_ldBN [.slice p2.1 ns.length p2.2, .int .i64 ip, .slice sa ss.length sc] isA_32 sz_32 rfl .here rfl) ?_
  refine Dr.q (i := 3) hP5 rfl (by kernel_rfl) (q_fa fo_32_0 rfl) ?_
  refine Dr.q (i := 4) hP5 rfl (by kernel_rfl) (q_ldB isA_29 rfl .here rfl) ?_
  refine Dr.q (i := 5) hP5 rfl (by kernel_rfl) (q_len esz_29 rfl) ?_
  refine Dr.e2 (i := 2) (j := 6) rfl rfl (by kernel_rfl) ?_ ?_
  · refine Ops.cl (α := {x : Nat × List WEnt // WI x.2 ss}) (v := fun x => .map (some x.1.1)) (B := fun x => [rd (wφ x.1.1 x.1.2)]) en_98 rfl (fun w hs => (wired_c _ _ _ _ ns ip ss w (hS.later hs.below) hm).mono fun e w' h => by obtain ⟨M, E, h1, h2, h3⟩ := h; exact ⟨⟨(M, E), h2⟩, h1, h3⟩) ?_
    rintro ⟨⟨M, E⟩, hW⟩
    refine Dr.back (fun _ hs => hF6 (.there .here) hs) ?_
    refine Dr.e (i := 6) rfl (by kernel_rfl) ?_
    refine Ops.mks (m := ns.length) el_178 zsb_184 rfl rfl (by omega) (by omega) ?_
    intro b8
    refine Dr.back (fun _ hs => hF6 (.there (.there .here)) hs) ?_
    refine Dr.q (i := 7) hP5 rfl (by kernel_rfl) (q_bld [.slice p2.1 ns.length p2.2, .int .i64 ip, .slice sa ss.length sc, .map (some M), .int .i64 0, .slice (some ⟨b8, 0, none⟩) ns.length ns.length, .slice none 0 0, .slice none 0 0, .slice none 0 0, .slice none 0 0, .slice none 0 0, .slice none 0 0, .slice none 0 0, .slice none 0 0, .slice none 0 0, .slice none 0 0, .slice none 0 0, .slice none 0 0, .slice none 0 0, .slice none 0 0, .slice none 0 0, .slice none 0 0] pls_182 zc_182 rfl rfl) ?_
    refine Dr.e (i := 8) rfl (by kernel_rfl) ?_
    refine Ops.box [.slice p2.1 ns.length p2.2, .int .i64 ip, .slice sa ss.length sc, .map (some M), .int .i64 0, .slice (some ⟨b8, 0, none⟩) ns.length ns.length, .slice none 0 0, .slice none 0 0, .slice none 0 0, .slice none 0 0, .slice none 0 0, .slice none 0 0, .slice none 0 0, .slice none 0 0, .slice none 0 0, .slice none 0 0, .slice none 0 0, .slice none 0 0, .slice none 0 0, .slice none 0 0, .slice none 0 0, .slice none 0 0] rfl rfl ?_
    intro b9
    refine Dr.back (fun _ hs => hF6 (.there (.there (.there .here))) hs) ?_
    refine Dr.tail 9 (by kernel_rfl) ?_
    refine Ops.sat ?_ (fun _ hs => hR7 (.there (.there (.there .here))) hs)
    refine Ops.q (q_asg rfl) ?_
    refine Ops.to rfl ?_
    refine Cd.seq ?_
    refine Cd.seq ?_
    refine Cd.region ?_
    refine Ops.q (q_mv rfl) ?_
    refine Ops.to rfl ?_
    refine Cd.block ?_
    refine Cd.lp (σ := List (Nat × List Int)) (fun q => q.length ≤ 16 ∧ ∀ x ∈ q, x.2 = List.replicate ns.length 0) (fun q => [(1, .pointer (some ⟨b1, 0, none⟩)), (3, .pointer (some ⟨b9, 0, none⟩)), (18, .int .i64 (q.length : Int))]) (fun q => blk b1 32 [.slice p2.1 ns.length p2.2, .int .i64 ip, .slice sa ss.length sc] :: blk b9 182 ([.slice p2.1 ns.length p2.2, .int .i64 ip, .slice sa ss.length sc, .map (some M), .int .i64 0, .slice (some ⟨b8, 0, none⟩) ns.length ns.length] ++ (q.map (rcell ns.length) ++ List.replicate (16 - q.length) (.slice none 0 0))) :: row (some ⟨b8, 0, none⟩) ns.length 184 2 ns.length ((List.replicate ns.length (⟨0, 0⟩ : Stt)).flatMap eStt) :: row p2.1 p2.2 116 8 ns.length (ns.flatMap ePrm) :: rd (wφ M E) :: q.map (rrow ns.length)) (fun q => 16 - q.length) [] ⟨Nat.zero_le _, fun _ h => by cases h⟩ ⟨rfl, rfl, rfl, trivial⟩ (fun _ hs => by have h1 := (((((hs.pull (.there (.there (.there .here)))).pull (.there (.there (.there (.there .here))))).pull (.there (.there (.there (.there .here))))).pull (.there (.there (.there (.there .here))))).pull (.there (.there (.there (.there .here))))); rw [rep_st] at h1; exact h1) ?_
    intro q hI
    have hI1 := hI.1
    refine Cd.seq ?_
    refine Cd.region ?_
    by_cases h10 : (q.length : Int) < 16
    · refine Ops.q (q_cmp rfl rfl (c_lt h10)) ?_
      refine Ops.to rfl ?_
      refine Cd.seq ?_
      refine Cd.cond_t rfl ?_
      refine Cd.skipTo rfl ?_
      refine Cd.seq ?_
      refine Cd.block ?_
      refine Cd.seq ?_
      refine Cd.region ?_
      refine Ops.q (q_mv rfl) ?_
      refine Ops.q (q_asg rfl) ?_
      refine Ops.to rfl ?_
      refine Cd.draw rfl (by kernel_rfl) (.cons .here .nil) ?_
      intro F11 St12 hP13 hF14 hR15
      refine Dr.q (i := 0) hP13 rfl (by kernel_rfl) (q_mv rfl) ?_
      refine Dr.q (i := 1) hP13 rfl (by kernel_rfl) (q_mv rfl) ?_
      refine Dr.q (i := 2) hP13 rfl (by kernel_rfl) (q_fa fo_32_0 rfl) ?_
      refine Dr.q (i := 3) hP13 rfl (by kernel_rfl) (q_ldB isA_29 rfl .here rfl) ?_
      refine Dr.q (i := 4) hP13 rfl (by kernel_rfl) (q_len esz_29 rfl) ?_
      refine Dr.q (i := 6) hP13 rfl (by kernel_rfl) (q_nck rfl) ?_
      refine Dr.q (i := 7) hP13 rfl (by kernel_rfl) (q_fa fo_182_4 rfl) ?_
      refine Dr.e (i := 5) rfl (by kernel_rfl) ?_
      refine Ops.mks (m := ns.length) el_26 zsb_3 rfl rfl (by omega) (by omega) ?_
      intro b16
      refine Dr.back (fun _ hs => hF14 (.there .here) hs) ?_
      refine Dr.q (i := 8) hP13 rfl (by kernel_rfl) (q_ixA (k := q.length) asz_180 rfl rfl (by omega)) ?_
      refine Dr.e (i := 9) rfl (by kernel_rfl) ?_
      refine Ops.stB [.slice (some ⟨b16, 0, none⟩) ns.length ns.length] ([.slice p2.1 ns.length p2.2, .int .i64 ip, .slice sa ss.length sc, .map (some M), .int .i64 0, .slice (some ⟨b8, 0, none⟩) ns.length ns.length] ++ (q.map (rcell ns.length) ++ (.slice (some ⟨b16, 0, none⟩) ns.length ns.length :: List.replicate (15 - q.length) (.slice none 0 0)))) sz_26 rfl rfl rfl (one rfl) (.there (.there .here)) (ble_ok (by simp; omega)) (set_nil (α := Value) (n := q.length) (pre := [.slice p2.1 ns.length p2.2, .int .i64 ip, .slice sa ss.length sc, .map (some M), .int .i64 0, .slice (some ⟨b8, 0, none⟩) ns.length ns.length]) (by simp) (by omega) rfl) ?_
      refine Dr.back (fun _ hs => hF14 (.there .here) hs) ?_
      refine Dr.tail 10 (by kernel_rfl) ?_
      refine Ops.sat ?_ (fun _ hs => hR15 (.there .here) hs)
      refine Ops.to rfl ?_
      refine Cd.region ?_
      refine Ops.q (q_ar rfl rfl (a_inc (by omega))) ?_
      refine Ops.q (q_mv rfl) ?_
      refine Ops.rnd (q ++ [(b16, List.replicate ns.length 0)]) rfl (⟨by simp; omega, by intro x hx; rcases List.mem_append.1 hx with hx | hx; exact hI.2 x hx; obtain rfl := List.mem_singleton.1 hx; rfl⟩) (by simp; omega) ⟨rfl, rfl, (by rw [List.length_append]; rfl), trivial⟩ (fun _ hs => by have h1 := ((((((hs.pull (.there .here)).pull (.there (.there (.there (.there (.there .here)))))).pull (.there (.there (.there (.there (.there .here)))))).pull (.there (.there (.there (.there (.there .here)))))).pull (.there (.there (.there (.there (.there .here)))))).pull (.there (.there (.there (.there (.there .here)))))); rw [rep_int] at h1; exact ring_add (n := ns.length) h1 (by omega)) 
    · refine Ops.q (q_cmp rfl rfl (c_nlt (by omega))) ?_
      refine Ops.to rfl ?_
      refine Cd.seq ?_
      refine Cd.cond_f rfl ?_
      refine Cd.exitTo rfl ?_
      refine Cd.seq ?_
      refine Cd.region ?_
      refine Ops.q (q_mv rfl) ?_
      refine Ops.q (q_asg rfl) ?_
      refine Ops.to rfl ?_
      refine Cd.rt (fn := Try.f76) [.pointer (some ⟨b9, 0, none⟩)] (by with_reducible repeat (first | exact rq_here | apply rq_then | apply rq_block)) rfl ⟨rfl, trivial⟩ ?_
      intro w' hs'
      have hq : q.length = 16 := by omega
      rw [hq] at hs'
      have h1 := hs'.drop
      rw [show q.map (rcell ns.length) ++ List.replicate (16 - 16) (.slice none 0 0) = q.map (rcell ns.length) from List.append_nil _] at h1
      exact ⟨_, _, _, _, _, _, q, rfl, hW, hq, hI.2, h1⟩
  · refine Ops.mks (m := ns.length) el_178 zsb_184 rfl rfl (by omega) (by omega) ?_
    intro b17
    refine Dr.back (fun _ hs => hF6 (.there .here) hs) ?_
    refine Dr.e (i := 2) rfl (by kernel_rfl) ?_
    refine Ops.cl (α := {x : Nat × List WEnt // WI x.2 ss}) (v := fun x => .map (some x.1.1)) (B := fun x => [rd (wφ x.1.1 x.1.2)]) en_98 rfl (fun w hs => (wired_c _ _ _ _ ns ip ss w (hS.later hs.below) hm).mono fun e w' h => by obtain ⟨M, E, h1, h2, h3⟩ := h; exact ⟨⟨(M, E), h2⟩, h1, h3⟩) ?_
    rintro ⟨⟨M, E⟩, hW⟩
    refine Dr.back (fun _ hs => hF6 (.there (.there .here)) hs) ?_
    refine Dr.q (i := 7) hP5 rfl (by kernel_rfl) (q_bld [.slice p2.1 ns.length p2.2, .int .i64 ip, .slice sa ss.length sc, .map (some M), .int .i64 0, .slice (some ⟨b17, 0, none⟩) ns.length ns.length, .slice none 0 0, .slice none 0 0, .slice none 0 0, .slice none 0 0, .slice none 0 0, .slice none 0 0, .slice none 0 0, .slice none 0 0, .slice none 0 0, .slice none 0 0, .slice none 0 0, .slice none 0 0, .slice none 0 0, .slice none 0 0, .slice none 0 0, .slice none 0 0] pls_182 zc_182 rfl rfl) ?_
    refine Dr.e (i := 8) rfl (by kernel_rfl) ?_
    refine Ops.box [.slice p2.1 ns.length p2.2, .int .i64 ip, .slice sa ss.length sc, .map (some M), .int .i64 0, .slice (some ⟨b17, 0, none⟩) ns.length ns.length, .slice none 0 0, .slice none 0 0, .slice none 0 0, .slice none 0 0, .slice none 0 0, .slice none 0 0, .slice none 0 0, .slice none 0 0, .slice none 0 0, .slice none 0 0, .slice none 0 0, .slice none 0 0, .slice none 0 0, .slice none 0 0, .slice none 0 0, .slice none 0 0] rfl rfl ?_
    intro b18
    refine Dr.back (fun _ hs => hF6 (.there (.there (.there .here))) hs) ?_
    refine Dr.tail 9 (by kernel_rfl) ?_
    refine Ops.sat ?_ (fun _ hs => hR7 (.there (.there (.there .here))) hs)
    refine Ops.q (q_asg rfl) ?_
    refine Ops.to rfl ?_
    refine Cd.seq ?_
    refine Cd.seq ?_
    refine Cd.region ?_
    refine Ops.q (q_mv rfl) ?_
    refine Ops.to rfl ?_
    refine Cd.block ?_
    refine Cd.lp (σ := List (Nat × List Int)) (fun q => q.length ≤ 16 ∧ ∀ x ∈ q, x.2 = List.replicate ns.length 0) (fun q => [(1, .pointer (some ⟨b1, 0, none⟩)), (3, .pointer (some ⟨b18, 0, none⟩)), (18, .int .i64 (q.length : Int))]) (fun q => blk b1 32 [.slice p2.1 ns.length p2.2, .int .i64 ip, .slice sa ss.length sc] :: blk b18 182 ([.slice p2.1 ns.length p2.2, .int .i64 ip, .slice sa ss.length sc, .map (some M), .int .i64 0, .slice (some ⟨b17, 0, none⟩) ns.length ns.length] ++ (q.map (rcell ns.length) ++ List.replicate (16 - q.length) (.slice none 0 0))) :: row (some ⟨b17, 0, none⟩) ns.length 184 2 ns.length ((List.replicate ns.length (⟨0, 0⟩ : Stt)).flatMap eStt) :: row p2.1 p2.2 116 8 ns.length (ns.flatMap ePrm) :: rd (wφ M E) :: q.map (rrow ns.length)) (fun q => 16 - q.length) [] ⟨Nat.zero_le _, fun _ h => by cases h⟩ ⟨rfl, rfl, rfl, trivial⟩ (fun _ hs => by have h1 := (((((hs.pull (.there (.there .here))).pull (.there (.there (.there (.there .here))))).pull (.there (.there (.there (.there .here))))).pull (.there (.there (.there (.there .here))))).pull (.there (.there (.there (.there .here))))); rw [rep_st] at h1; exact h1) ?_
    intro q hI
    have hI1 := hI.1
    refine Cd.seq ?_
    refine Cd.region ?_
    by_cases h19 : (q.length : Int) < 16
    · refine Ops.q (q_cmp rfl rfl (c_lt h19)) ?_
      refine Ops.to rfl ?_
      refine Cd.seq ?_
      refine Cd.cond_t rfl ?_
      refine Cd.skipTo rfl ?_
      refine Cd.seq ?_
      refine Cd.block ?_
      refine Cd.seq ?_
      refine Cd.region ?_
      refine Ops.q (q_mv rfl) ?_
      refine Ops.q (q_asg rfl) ?_
      refine Ops.to rfl ?_
      refine Cd.draw rfl (by kernel_rfl) (.cons .here .nil) ?_
      intro F20 St21 hP22 hF23 hR24
      refine Dr.q (i := 0) hP22 rfl (by kernel_rfl) (q_mv rfl) ?_
      refine Dr.q (i := 1) hP22 rfl (by kernel_rfl) (q_mv rfl) ?_
      refine Dr.q (i := 2) hP22 rfl (by kernel_rfl) (q_fa fo_32_0 rfl) ?_
      refine Dr.q (i := 3) hP22 rfl (by kernel_rfl) (q_ldB isA_29 rfl .here rfl) ?_
      refine Dr.q (i := 4) hP22 rfl (by kernel_rfl) (q_len esz_29 rfl) ?_
      refine Dr.q (i := 6) hP22 rfl (by kernel_rfl) (q_nck rfl) ?_
      refine Dr.q (i := 7) hP22 rfl (by kernel_rfl) (q_fa fo_182_4 rfl) ?_
      refine Dr.e (i := 5) rfl (by kernel_rfl) ?_
      refine Ops.mks (m := ns.length) el_26 zsb_3 rfl rfl (by omega) (by omega) ?_
      intro b25
      refine Dr.back (fun _ hs => hF23 (.there .here) hs) ?_
      refine Dr.q (i := 8) hP22 rfl (by kernel_rfl) (q_ixA (k := q.length) asz_180 rfl rfl (by omega)) ?_
      refine Dr.e (i := 9) rfl (by kernel_rfl) ?_
      refine Ops.stB [.slice (some ⟨b25, 0, none⟩) ns.length ns.length] ([.slice p2.1 ns.length p2.2, .int .i64 ip, .slice sa ss.length sc, .map (some M), .int .i64 0, .slice (some ⟨b17, 0, none⟩) ns.length ns.length] ++ (q.map (rcell ns.length) ++ (.slice (some ⟨b25, 0, none⟩) ns.length ns.length :: List.replicate (15 - q.length) (.slice none 0 0)))) sz_26 rfl rfl rfl (one rfl) (.there (.there .here)) (ble_ok (by simp; omega)) (set_nil (α := Value) (n := q.length) (pre := [.slice p2.1 ns.length p2.2, .int .i64 ip, .slice sa ss.length sc, .map (some M), .int .i64 0, .slice (some ⟨b17, 0, none⟩) ns.length ns.length]) (by simp) (by omega) rfl) ?_
      refine Dr.back (fun _ hs => hF23 (.there .here) hs) ?_
      refine Dr.tail 10 (by kernel_rfl) ?_
      refine Ops.sat ?_ (fun _ hs => hR24 (.there .here) hs)
      refine Ops.to rfl ?_
      refine Cd.region ?_
      refine Ops.q (q_ar rfl rfl (a_inc (by omega))) ?_
      refine Ops.q (q_mv rfl) ?_
      refine Ops.rnd (q ++ [(b25, List.replicate ns.length 0)]) rfl (⟨by simp; omega, by intro x hx; rcases List.mem_append.1 hx with hx | hx; exact hI.2 x hx; obtain rfl := List.mem_singleton.1 hx; rfl⟩) (by simp; omega) ⟨rfl, rfl, (by rw [List.length_append]; rfl), trivial⟩ (fun _ hs => by have h1 := ((((((hs.pull (.there .here)).pull (.there (.there (.there (.there (.there .here)))))).pull (.there (.there (.there (.there (.there .here)))))).pull (.there (.there (.there (.there (.there .here)))))).pull (.there (.there (.there (.there (.there .here)))))).pull (.there (.there (.there (.there (.there .here)))))); rw [rep_int] at h1; exact ring_add (n := ns.length) h1 (by omega)) 
    · refine Ops.q (q_cmp rfl rfl (c_nlt (by omega))) ?_
      refine Ops.to rfl ?_
      refine Cd.seq ?_
      refine Cd.cond_f rfl ?_
      refine Cd.exitTo rfl ?_
      refine Cd.seq ?_
      refine Cd.region ?_
      refine Ops.q (q_mv rfl) ?_
      refine Ops.q (q_asg rfl) ?_
      refine Ops.to rfl ?_
      refine Cd.rt (fn := Try.f76) [.pointer (some ⟨b18, 0, none⟩)] (by with_reducible repeat (first | exact rq_here | apply rq_then | apply rq_block)) rfl ⟨rfl, trivial⟩ ?_
      intro w' hs'
      have hq : q.length = 16 := by omega
      rw [hq] at hs'
      have h1 := hs'.drop
      rw [show q.map (rcell ns.length) ++ List.replicate (16 - 16) (.slice none 0 0) = q.map (rcell ns.length) from List.append_nil _] at h1
      exact ⟨_, _, _, _, _, _, q, rfl, hW, hq, hI.2, h1⟩
end Go.Proofs.Ytilcdghliigngaa
namespace Go.Proofs.Ytilcdghliigngaa
open Go.RowKit Go.Proofs.YtilcdghliigngaaGl Go.Proofs.YtilcdghliigngaaPm
set_option linter.unusedVariables false
set_option linter.unusedSimpArgs false
theorem ring_get {pre : List Value} {f : Nat × List Int → Value} {q : List (Nat × List Int)} {j o : Nat} {x : Nat × List Int} (hx : q[j]? = some x) (ho : o = pre.length + j) : (pre ++ q.map f)[o]? = some (f x) := by
  subst ho
  rw [List.getElem?_append_right (by omega), Nat.add_sub_cancel_left, List.getElem?_map, hx]; rfl
theorem RoL_tail {w : World} {b o : Nat} {x : Evt} {xs : List Evt} {m c : Nat} (h : RoL w (some ⟨b, o, none⟩) eEvt (x :: xs)) (hc : (x :: xs).length ≤ c) : RoL w (if c = 1 then some ⟨b, o, none⟩ else (some ⟨b, o, none⟩ : Option Addr).map (·.add (1 * 2))) eEvt xs := by
  by_cases h1 : c = 1
  · have : xs = [] := List.eq_nil_of_length_eq_zero (by simp at hc; omega)
    subst this
    exact Ro.nil w _
  · rw [if_neg h1]
    intro j u hu
    have h2 := h (2 + j) u (by simp only [List.flatMap_cons]; rw [List.getElem?_append_right (by simp [eEvt])]; simpa [eEvt] using hu)
    obtain ⟨b', o', he, hc'⟩ := h2
    cases he
    exact ⟨b, o + 2, by simp [add_at], by rw [Nat.add_assoc]; exact hc'⟩
theorem row_c (S : Nat) (na : Option Addr) (nc : Nat) (sa : Option Addr) (sc : Nat) (ns : List Prm) (ip : Int) (m : Nat) (M : Nat) (now : Nat) (B : Nat) (q : List (Nat × List Int)) (G : List Atom) (d : Int) (j : Nat) (x : Nat × List Int) (w0 w : World) (hj : ((now : Int) + d) % 16 = (j : Int)) (hj2 : j < 16) (hx : q[j]? = some x) (hd : 0 ≤ d ∧ d ≤ 16) (hnow : now ≤ 10000) (hs : Sat w0 w (blk S 182 ([.slice na ns.length nc, .int .i64 ip, .slice sa m sc, .map (some M), .int .i64 (now : Int), .slice (some ⟨B, 0, none⟩) ns.length ns.length] ++ q.map (rcell ns.length)) :: G)) : Calls Try.prog 99 [.pointer (some ⟨S, 0, none⟩), .int .i64 d].toArray w fun e w' => e = .returned (rcell ns.length x) ∧ Sat w0 w' (blk S 182 ([.slice na ns.length nc, .int .i64 ip, .slice sa m sc, .map (some M), .int .i64 (now : Int), .slice (some ⟨B, 0, none⟩) ns.length ns.length] ++ q.map (rcell ns.length)) :: G) := by
  refine fstart Try.func99 rfl rfl hs ?_
  refine Cd.seq ?_
  refine Cd.region ?_
  refine Ops.q (q_asg rfl) ?_
  refine Ops.to rfl ?_
  refine Cd.seq ?_
  refine Cd.draw rfl (by kernel_rfl) (.cons .here .nil) ?_
  intro F1 St2 hP3 hF4 hR5
  refine Dr.q (i := 0) hP3 rfl (by kernel_rfl) (q_mv rfl) ?_
  refine Dr.q (i := 1) hP3 rfl (by kernel_rfl) (q_mv rfl) ?_
  refine Dr.q (i := 2) hP3 rfl (by kernel_rfl) (q_nck rfl) ?_
  refine Dr.q (i := 3) hP3 rfl (by kernel_rfl) (q_fa fo_182_2 rfl) ?_
  refine Dr.q (i := 4) hP3 rfl (by kernel_rfl) (q_ldB isA_3 rfl .here rfl) ?_
  refine Dr.q (i := 5) hP3 rfl (by kernel_rfl) (q_mv rfl) ?_
  refine Dr.q (i := 6) hP3 rfl (by kernel_rfl) (q_ar rfl rfl (a_add (by omega))) ?_
  refine Dr.q (i := 7) hP3 rfl (by kernel_rfl) (q_ar rfl rfl ((by rw [a_rem (by omega) (by omega), hj]))) ?_
  refine Dr.q (i := 8) hP3 rfl (by kernel_rfl) (q_nck rfl) ?_
  refine Dr.q (i := 9) hP3 rfl (by kernel_rfl) (q_fa fo_182_4 rfl) ?_
  refine Dr.q (i := 10) hP3 rfl (by kernel_rfl) (q_ixA (k := j) asz_180 rfl rfl (by omega)) ?_
  refine Dr.q (i := 11) hP3 rfl (by kernel_rfl) (q_ldB isA_26 rfl .here (ring_get hx (by simp))) ?_
  refine Dr.tail 12 (by kernel_rfl) ?_
  refine Ops.sat ?_ (fun _ hs => hR5 .here hs)
  refine Ops.q (q_asg rfl) ?_
  refine Ops.to rfl ?_
  refine Cd.rt (fn := Try.f99) [rcell ns.length x] (by with_reducible repeat (first | exact rq_here | apply rq_then | apply rq_block)) rfl ⟨rfl, trivial⟩ ?_
  intro w' hs'
  exact ⟨rfl, hs'⟩
theorem taker_c (Tb : Nat) (ea : Option Addr) (ec : Nat) (evs : List Evt) (t : Int) (w0 w : World) (F : List Atom) (hE : RoL w0 ea eEvt evs) (hec : evs.length ≤ ec) (hel : evs.length ≤ 65536) (hs : Sat w0 w (blk Tb 145 [.slice ea evs.length ec] :: F)) :
    Calls Try.prog 78 [.pointer (some ⟨Tb, 0, none⟩), .int .i64 t].toArray w fun e w' => ∃ p : Option Addr × Nat × Option Addr × Nat, e = .returned (.slice p.1 ((evs.takeWhile (fun e => e.tick == t)).map (·.id)).length p.2.1) ∧ RoL w0 p.2.2.1 eEvt (evs.dropWhile (fun e => e.tick == t)) ∧ (evs.dropWhile (fun e => e.tick == t)).length ≤ p.2.2.2 ∧
      Sat w0 w' (blk Tb 145 [.slice p.2.2.1 (evs.dropWhile (fun e => e.tick == t)).length p.2.2.2] :: row p.1 p.2.1 3 1 ((evs.takeWhile (fun e => e.tick == t)).map (·.id)).length (((evs.takeWhile (fun e => e.tick == t)).map (·.id)).flatMap eInt) :: F) := by
  refine fstart Try.func78 rfl rfl hs ?_
  refine Cd.seq ?_
  refine Cd.region ?_
  refine Ops.q (q_asg rfl) ?_
  refine Ops.to rfl ?_
  refine Cd.seq ?_
  refine Cd.region ?_
  refine Ops.q (q_asg rfl) ?_
  refine Ops.to rfl ?_
  refine Cd.seq ?_
  refine Cd.block ?_
  refine Cd.lp (σ := Nat × Nat × Option Addr × Nat × Option Addr × Nat) (fun s => s.1 ≤ evs.length ∧ s.2.1 = (evs.drop s.1).length ∧ RoL w0 s.2.2.1 eEvt (evs.drop s.1) ∧ s.2.1 ≤ s.2.2.2.1 ∧ ∀ y ∈ evs.take s.1, y.tick = t) (fun s => [(0, .pointer (some ⟨Tb, 0, none⟩)), (1, .int .i64 t), (5, .slice s.2.2.2.2.1 s.1 s.2.2.2.2.2)]) (fun s => blk Tb 145 [.slice s.2.2.1 s.2.1 s.2.2.2.1] :: row s.2.2.2.2.1 s.2.2.2.2.2 3 1 s.1 (((evs.take s.1).map (·.id)).flatMap eInt) :: F) (fun s => evs.length - s.1) (0, evs.length, ea, ec, none, 0) ⟨Nat.zero_le _, rfl, hE, hec, by simp⟩ ⟨rfl, rfl, rfl, trivial⟩ (fun _ hs => by have h1 := hs.nilRow 3 1; exact h1.pull (.there .here)) ?_
  rintro ⟨kk, nn, aa, cc, oa, oc⟩ hI
  dsimp only at hI
  change Cd _ _ _ _ _ _ _ [(0, .pointer (some ⟨Tb, 0, none⟩)), (1, .int .i64 t), (5, .slice oa kk oc)] (blk Tb 145 [.slice aa nn cc] :: row oa oc 3 1 kk (((evs.take kk).map (·.id)).flatMap eInt) :: F)
  have hI1 := hI.1
  refine Cd.seq ?_
  refine Cd.seq ?_
  refine Cd.region ?_
  refine Ops.q (q_mv rfl) ?_
  refine Ops.q (q_nck rfl) ?_
  refine Ops.q (q_fa fo_145_0 rfl) ?_
  refine Ops.q (q_ldB isA_27 rfl .here rfl) ?_
  refine Ops.q (q_len esz_27 rfl) ?_
  by_cases hpos : 0 < (nn : Int)
  · refine Ops.q (q_cmp rfl rfl (c_gt hpos)) ?_
    have hnn : nn = evs.length - kk := by rw [hI.2.1, List.length_drop]
    obtain ⟨x, hx⟩ : ∃ x, evs[kk]? = some x := ⟨_, List.getElem?_eq_getElem (by omega)⟩
    have hx0 : (evs.drop kk)[0]? = some x := by rw [List.getElem?_drop]; exact hx
    obtain ⟨ab, ao, rfl⟩ := RoL.pos hI.2.2.1 eEvt_len hx0
    refine Ops.q (q_mv rfl) ?_
    refine Ops.q (q_mv rfl) ?_
    refine Ops.q (q_nck rfl) ?_
    refine Ops.q (q_fa fo_145_0 rfl) ?_
    refine Ops.q (q_ldB isA_27 rfl .here rfl) ?_
    refine Ops.q (q_ix (k := 0) esz_27 rfl rfl (by omega)) ?_
    refine Ops.q (q_fa fo_88_0 rfl) ?_
    refine Ops.q (q_ldR isA_3 rfl (hI.2.2.1.at eEvt_len hx0 rfl)) ?_
    refine Ops.q (q_mv rfl) ?_
    by_cases h1 : x.tick = t
    · refine Ops.q (q_cmp rfl rfl (c_eq h1)) ?_
      refine Ops.q (q_pickT rfl rfl) ?_
      refine Ops.to rfl ?_
      refine Cd.cond_t rfl ?_
      refine Cd.skipTo rfl ?_
      refine Cd.block ?_
      refine Cd.seq ?_
      refine Cd.region ?_
      refine Ops.q (q_mv rfl) ?_
      refine Ops.q (q_mv rfl) ?_
      refine Ops.q (q_nck rfl) ?_
      refine Ops.q (q_fa fo_145_0 rfl) ?_
      refine Ops.q (q_ldB isA_27 rfl .here rfl) ?_
      refine Ops.q (q_ix (k := 0) esz_27 rfl rfl (by omega)) ?_
      refine Ops.q (q_fa fo_88_1 rfl) ?_
      refine Ops.q (q_ldR isA_3 rfl (hI.2.2.1.at eEvt_len hx0 rfl)) ?_
      refine Ops.lit [.int .i64 x.id] el_26 zsb_3 rfl rfl ⟨by decide, by decide⟩ rfl ?_
      intro b2
      refine Ops.app (news := [.int .i64 x.id]) el_26 zsb_3 (by decide) rfl rfl (fun _ hs => hs.ownRo .here) (fun _ hs => (hs.pull .here).drop) (fun _ _ => (.there .here)) rfl (one rfl) (by omega) (by omega) ?_
      intro a3 c4
      refine Ops.q (q_asg rfl) ?_
      refine Ops.to rfl ?_
      refine Cd.region ?_
      refine Ops.q (q_mv rfl) ?_
      refine Ops.q (q_mv rfl) ?_
      refine Ops.q (q_nck rfl) ?_
      refine Ops.q (q_fa fo_145_0 rfl) ?_
      refine Ops.q (q_ldB isA_27 rfl .here rfl) ?_
      refine Ops.q (q_cut (k := 1) el_27 sz_88 rfl rfl (by omega)) ?_
      refine Ops.q (q_nck rfl) ?_
      refine Ops.q (q_fa fo_145_0 rfl) ?_
      refine Ops.stB [.slice (if cc = 1 then ((some ⟨ab, ao, none⟩) : Option Addr) else ((some ⟨ab, ao, none⟩) : Option Addr).map (·.add (1 * 2))) (nn - 1) (cc - 1)] [.slice (if cc = 1 then ((some ⟨ab, ao, none⟩) : Option Addr) else ((some ⟨ab, ao, none⟩) : Option Addr).map (·.add (1 * 2))) (nn - 1) (cc - 1)] sz_27 rfl rfl rfl (one rfl) .here rfl rfl ?_
      refine Ops.rnd ((kk + 1, nn - 1, if cc = 1 then ((some ⟨ab, ao, none⟩) : Option Addr) else ((some ⟨ab, ao, none⟩) : Option Addr).map (·.add (1 * 2)), cc - 1, a3, c4)) rfl (by dsimp only; exact (by have hdr := drop_get hx; rw [hdr] at hI; exact ⟨by omega, by rw [hI.2.1]; simp, RoL_tail (m := 0) hI.2.2.1 (by rw [← hI.2.1]; exact hI.2.2.2.1), by have := hI.2.2.2.1; omega, by intro y hy; rw [List.take_add_one, hx] at hy; rcases List.mem_append.1 hy with hy | hy; exact hI.2.2.2.2 y hy; obtain rfl := List.mem_singleton.1 hy; assumption⟩)) (by dsimp only; omega) ⟨rfl, rfl, rfl, trivial⟩ (fun _ hs => by have h1 := ((hs.pull (.there .here)).pull (.there .here)); rw [List.take_add_one, hx, List.map_append, fm_app]; exact h1) 
    · refine Ops.q (q_cmp rfl rfl (c_neq h1)) ?_
      refine Ops.q (q_pickT rfl rfl) ?_
      refine Ops.to rfl ?_
      refine Cd.cond_f rfl ?_
      refine Cd.exitTo rfl ?_
      refine Cd.seq ?_
      refine Cd.region ?_
      refine Ops.q (q_mv rfl) ?_
      refine Ops.q (q_asg rfl) ?_
      refine Ops.to rfl ?_
      refine Cd.rt (fn := Try.f78) [.slice oa kk oc] (by with_reducible repeat (first | exact rq_here | apply rq_then | apply rq_block)) rfl ⟨rfl, trivial⟩ ?_
      intro w' hs'
      have htw := takeWhile_eq (p := fun e : Evt => e.tick == t) (xs := evs) (k := kk) (fun y hy => by simpa using hI.2.2.2.2 y hy) (fun y hy => by first | (rw [hx] at hy; obtain rfl := Option.some.inj hy; simpa using (by assumption)) | (have h9 := hI.2.1; rw [List.length_drop] at h9; rw [List.getElem?_eq_none (by omega)] at hy; cases hy))
      refine ⟨(oa, oc, (some ⟨ab, ao, none⟩), cc), ?_⟩
      rw [htw.1, htw.2]
      have hl : (evs.take kk).length = kk := by rw [List.length_take]; omega
      exact ⟨by simp only [joinV, List.length_map, hl], hI.2.2.1, by rw [← hI.2.1]; exact hI.2.2.2.1, by simp only [List.length_map, hl]; rw [← hI.2.1]; exact hs'⟩
  · refine Ops.q (q_cmp rfl rfl (c_ngt (by omega))) ?_
    refine Ops.q (q_mv rfl) ?_
    refine Ops.sk ?_
    refine Ops.sk ?_
    refine Ops.sk ?_
    refine Ops.sk ?_
    refine Ops.sk ?_
    refine Ops.sk ?_
    refine Ops.sk ?_
    refine Ops.sk ?_
    refine Ops.sk ?_
    refine Ops.q (q_pickF rfl rfl) ?_
    refine Ops.to rfl ?_
    refine Cd.cond_f rfl ?_
    refine Cd.exitTo rfl ?_
    refine Cd.seq ?_
    refine Cd.region ?_
    refine Ops.q (q_mv rfl) ?_
    refine Ops.q (q_asg rfl) ?_
    refine Ops.to rfl ?_
    refine Cd.rt (fn := Try.f78) [.slice oa kk oc] (by with_reducible repeat (first | exact rq_here | apply rq_then | apply rq_block)) rfl ⟨rfl, trivial⟩ ?_
    intro w' hs'
    have htw := takeWhile_eq (p := fun e : Evt => e.tick == t) (xs := evs) (k := kk) (fun y hy => by simpa using hI.2.2.2.2 y hy) (fun y hy => by first | (rw [hx] at hy; obtain rfl := Option.some.inj hy; simpa using (by assumption)) | (have h9 := hI.2.1; rw [List.length_drop] at h9; rw [List.getElem?_eq_none (by omega)] at hy; cases hy))
    refine ⟨(oa, oc, aa, cc), ?_⟩
    rw [htw.1, htw.2]
    have hl : (evs.take kk).length = kk := by rw [List.length_take]; omega
    exact ⟨by simp only [joinV, List.length_map, hl], hI.2.2.1, by rw [← hI.2.1]; exact hI.2.2.2.1, by simp only [List.length_map, hl]; rw [← hI.2.1]; exact hs'⟩
end Go.Proofs.Ytilcdghliigngaa
namespace Go.Proofs.Ytilcdghliigngaa
open Go.RowKit Go.Proofs.YtilcdghliigngaaGl Go.Proofs.YtilcdghliigngaaPm
set_option linter.unusedVariables false
set_option linter.unusedSimpArgs false
theorem fmT {α β : Type} (f : α → List β) {xs : List α} {j : Nat} {x : α} (hx : xs[j]? = some x) : (xs.take (j + 1)).flatMap f = (xs.take j).flatMap f ++ f x := by
  rw [List.take_add_one, hx, List.flatMap_append]; simp
theorem fmS {α β : Type} (f : α → List β) {xs : List α} {j : Nat} {x : α} (hx : xs[j]? = some x) : xs.flatMap f = (xs.take j).flatMap f ++ (f x ++ (xs.drop (j + 1)).flatMap f) := by
  rw [← List.flatMap_cons, ← drop_get hx, ← List.flatMap_append, List.take_append_drop]
def argS (x : Syn) : List Value := [.agg (eSyn x).toArray]
def metS (ss : List Syn) (fired ids : List Int) : List Syn := fired.flatMap (filt ss) ++ ids.flatMap (fun i => filt ss (-1 - i))
theorem from118_c (J : List Syn → List Atom) (l : Nat) (xs pre : List Syn) (k : Int) (mb yb M : Nat) (E : List WEnt) (ss : List Syn) (hW : WI E ss) (w0 w : World) (Z : List Atom) (hpost : ∃ post, pre ++ filt ss k ++ post = xs) (hlen : (filt ss k).length ≤ 8192)
    (hy : ∀ Y pre x w, (∃ post, pre ++ x :: post = xs) → Sat w0 w (bun (J pre) :: Y) → YCall Try.prog l (argS x).toArray w (fun w' => Sat w0 w' (bun (J (pre ++ [x])) :: Y)))
    (hs : Sat w0 w (bun (J pre) :: blk mb 176 [.map (some M)] :: blk yb 208 [.func (.yield l) #[] #[]] :: rd (wφ M E) :: Z)) :
    Calls Try.prog 118 [.int .i64 k, .pointer (some ⟨mb, 0, none⟩), .pointer (some ⟨yb, 0, none⟩)].toArray w fun e w' => e = .returned (.bool true) ∧ Sat w0 w' (bun (J (pre ++ filt ss k)) :: blk mb 176 [.map (some M)] :: blk yb 208 [.func (.yield l) #[] #[]] :: rd (wφ M E) :: Z) := by
  obtain ⟨a, c, hl, hr⟩ := wl_get hW k
  have hro := hr M w (hs.read (.there (.there (.there .here))))
  refine fstart Try.func118 rfl rfl hs ?_
  refine Cd.seq ?_
  refine Cd.region ?_
  refine Ops.q (q_asg rfl) ?_
  refine Ops.to rfl ?_
  refine Cd.seq ?_
  refine Cd.seq ?_
  refine Cd.region ?_
  refine Ops.q (q_ldB isA_176 rfl (.there .here) rfl) ?_
  refine Ops.q (q_mv rfl) ?_
  refine Ops.q (q_lookW (v := .slice a (filt ss k).length c) mpT_176 iK_3 rfl rfl (fun w hs => by obtain ⟨⟨l, c, h1, h2⟩, _⟩ := hs.read (.there (.there (.there .here))); exact ⟨l, c, _, h1, h2, hl.imp id (fun h => ⟨h.1, by rw [h.2]; exact run_zv zv_30 w⟩)⟩)) ?_
  refine Ops.q (q_len esz_30 rfl) ?_
  refine Ops.q (q_mv rfl) ?_
  refine Ops.to rfl ?_
  refine Cd.block ?_
  refine Cd.lp (σ := Nat) (fun j => j ≤ (filt ss k).length) (fun j => [(1, .pointer (some ⟨mb, 0, none⟩)), (2, .pointer (some ⟨yb, 0, none⟩)), (9, .slice a ((filt ss k).length) c), (10, .int .i64 ((filt ss k).length : Int)), (11, .int .i64 (j : Int))]) (fun j => bun (J (pre ++ (filt ss k).take j)) :: blk mb 176 [.map (some M)] :: blk yb 208 [.func (.yield l) #[] #[]] :: rd (wφ M E) :: Z) (fun j => (filt ss k).length - j) 0 (Nat.zero_le _) ⟨rfl, rfl, rfl, rfl, rfl, trivial⟩ (fun _ hs => by have e : pre ++ (filt ss k).take 0 = pre := List.append_nil _; (try dsimp only); rw [e]; exact hs) ?_
  intro j hI
  refine Cd.seq ?_
  refine Cd.region ?_
  by_cases h1 : (j : Int) < ((filt ss k).length : Int)
  · refine Ops.q (q_cmp rfl rfl (c_lt h1)) ?_
    obtain ⟨x2, hx3⟩ : ∃ x, (filt ss k)[j]? = some x := ⟨_, List.getElem?_eq_getElem (by omega)⟩
    obtain ⟨ab4, ao5, rfl⟩ := RoL.pos hro eSyn_len hx3
    refine Ops.to rfl ?_
    refine Cd.seq ?_
    refine Cd.cond_t rfl ?_
    refine Cd.skipTo rfl ?_
    refine Cd.seq ?_
    refine Cd.block ?_
    refine Cd.seq ?_
    refine Cd.region ?_
    refine Ops.q (q_ix (k := j) esz_30 rfl rfl (by omega)) ?_
    refine Ops.q (q_ldN (vs := [.int .i64 x2.src, .int .i64 x2.dst, .int .i64 x2.wt, .int .i64 x2.dl]) isA_126 sz_126 rfl (fun w hs j u hu => RoL.at (hr M w (hs.read (.there (.there (.there .here))))) eSyn_len hx3 hu)) ?_
    refine Ops.alc [.int .i64 0, .int .i64 0, .int .i64 0, .int .i64 0] zc_126 ?_
    intro b6
    refine Ops.stB [.int .i64 x2.src, .int .i64 x2.dst, .int .i64 x2.wt, .int .i64 x2.dl] [.int .i64 x2.src, .int .i64 x2.dst, .int .i64 x2.wt, .int .i64 x2.dl] sz_126 rfl rfl rfl (one rfl) .here rfl rfl ?_
    refine Ops.to rfl ?_
    refine Cd.seq ?_
    refine Cd.region ?_
    refine Ops.q (q_ldB isA_208 rfl (.there (.there (.there .here))) rfl) ?_
    refine Ops.q (q_ldBN [.int .i64 x2.src, .int .i64 x2.dst, .int .i64 x2.wt, .int .i64 x2.dl] isA_126 sz_126 rfl .here rfl) ?_
    have hp1 : ∃ post', (pre ++ (filt ss k).take j) ++ x2 :: post' = xs := by obtain ⟨post, hp⟩ := hpost; exact ⟨(filt ss k).drop (j + 1) ++ post, by rw [← hp, List.append_assoc, List.append_assoc, ← List.cons_append, ← drop_get hx3, ← List.append_assoc (List.take j _), List.take_append_drop]⟩
    refine Ops.yl (vs := argS x2) rfl rfl (fun w hs => hy _ _ x2 w hp1 (hs.pull (.there .here))) ?_
    refine Ops.q (q_not rfl) ?_
    refine Ops.to rfl ?_
    refine Cd.cond_f rfl ?_
    refine Cd.skipTo rfl ?_
    refine Cd.region ?_
    refine Ops.q (q_ar rfl rfl (a_inc (by omega))) ?_
    refine Ops.q (q_mv rfl) ?_
    refine Ops.rnd (j + 1) rfl (by omega) (by omega) ⟨rfl, rfl, rfl, rfl, rfl, trivial⟩ (fun _ hs => by have h1 := (((((hs.pull (.there (.there (.there (.there .here))))).pull (.there (.there (.there (.there .here))))).pull (.there (.there (.there (.there .here))))).pull (.there (.there (.there .here)))).pull (.there (.there (.there (.there .here))))).drop; (try dsimp only); rw [List.take_add_one, hx3, ← List.append_assoc]; exact h1) 
  · refine Ops.q (q_cmp rfl rfl (c_nlt (by omega))) ?_
    refine Ops.to rfl ?_
    refine Cd.seq ?_
    refine Cd.cond_f rfl ?_
    refine Cd.exitTo rfl ?_
    refine Cd.seq ?_
    refine Cd.region ?_
    refine Ops.q (q_asg rfl) ?_
    refine Ops.to rfl ?_
    refine Cd.rt (fn := Try.f118) [.bool true] (by with_reducible repeat (first | exact rq_here | apply rq_then | apply rq_block)) rfl ⟨rfl, trivial⟩ ?_
    intro w' hs'
    rw [List.take_of_length_le (by omega)] at hs'
    exact ⟨rfl, hs'⟩
theorem filt_le {ss : List Syn} (h : ss.length ≤ 8192) (k : Int) : (filt ss k).length ≤ 8192 := Nat.le_trans (List.length_filter_le _ _) h
theorem iter117 (mb fb ib M : Nat) (E : List WEnt) (ss : List Syn) (hW : WI E ss) (hlen : ss.length ≤ 8192) (fa : Option Addr) (fc : Nat) (fired : List Int) (ia : Option Addr) (ic : Nat) (ids : List Int) (hids : ∀ i ∈ ids, wi i 0 100000) (hfl : fired.length ≤ 100000) (hil : ids.length ≤ 100000) (w0 : World) :
    Iter Try.prog 117 [.pointer (some ⟨mb, 0, none⟩), .pointer (some ⟨fb, 0, none⟩), .pointer (some ⟨ib, 0, none⟩)] argS (metS ss fired ids) w0
      [blk mb 176 [.map (some M)], blk fb 26 [.slice fa fired.length fc], blk ib 26 [.slice ia ids.length ic], row fa fc 3 1 fired.length (fired.flatMap eInt), row ia ic 3 1 ids.length (ids.flatMap eInt), rd (wφ M E)] := by
  intro J l w hy hs
  refine fstart Try.func117 rfl rfl hs ?_
  refine Cd.seq ?_
  refine Cd.region ?_
  refine Ops.box [.func (.yield l) #[] #[]] rfl rfl ?_
  intro b1
  refine Ops.to rfl ?_
  refine Cd.seq ?_
  refine Cd.region ?_
  refine Ops.q (q_mkf rfl rfl) ?_
  refine Ops.q (q_asg rfl) ?_
  refine Ops.to rfl ?_
  refine Cd.seq ?_
  refine Cd.seq ?_
  refine Cd.region ?_
  refine Ops.q (q_ldB isA_26 rfl (.there (.there (.there .here))) rfl) ?_
  refine Ops.q (q_len esz_26 rfl) ?_
  refine Ops.q (q_mv rfl) ?_
  refine Ops.to rfl ?_
  refine Cd.block ?_
  refine Cd.lp (σ := Nat) (fun j => j ≤ fired.length) (fun j => [(3, .pointer (some ⟨ib, 0, none⟩)), (5, .func (.func 118) [].toArray [.pointer (some ⟨mb, 0, none⟩), .pointer (some ⟨b1, 0, none⟩)].toArray), (11, .slice fa fired.length fc), (12, .int .i64 (fired.length : Int)), (13, .int .i64 (j : Int))]) (fun j => [bun (J ((fired.take j).flatMap (filt ss))), blk mb 176 [.map (some M)], blk b1 208 [.func (.yield l) #[] #[]], rd (wφ M E), blk fb 26 [.slice fa fired.length fc], blk ib 26 [.slice ia ids.length ic], row fa fc 3 1 fired.length (fired.flatMap eInt), row ia ic 3 1 ids.length (ids.flatMap eInt)]) (fun j => fired.length - j) 0 (Nat.zero_le _) ⟨rfl, rfl, rfl, rfl, rfl, trivial⟩ (fun _ hs => by have h1 := ((((((((hs.pull (.there (.there (.there (.there (.there (.there .here))))))).pull (.there (.there (.there (.there (.there (.there .here))))))).pull (.there (.there (.there (.there (.there (.there .here))))))).pull (.there (.there (.there (.there (.there (.there .here))))))).pull (.there (.there (.there (.there (.there (.there (.there .here)))))))).pull (.there (.there (.there (.there (.there .here)))))).pull (.there (.there (.there (.there (.there (.there (.there .here)))))))).pull (.there (.there (.there (.there (.there (.there (.there .here)))))))); exact h1) ?_
  intro j hI
  refine Cd.seq ?_
  refine Cd.region ?_
  by_cases h2 : (j : Int) < (fired.length : Int)
  · refine Ops.q (q_cmp rfl rfl (c_lt h2)) ?_
    obtain ⟨x3, hx4⟩ : ∃ x, fired[j]? = some x := ⟨_, List.getElem?_eq_getElem (by omega)⟩
    refine Ops.rowpos (.there (.there (.there (.there (.there (.there .here)))))) (by omega) ?_
    rintro rb5 rfl
    refine Ops.to rfl ?_
    refine Cd.seq ?_
    refine Cd.cond_t rfl ?_
    refine Cd.skipTo rfl ?_
    refine Cd.seq ?_
    refine Cd.block ?_
    refine Cd.seq ?_
    refine Cd.region ?_
    refine Ops.q (q_ix (k := j) esz_26 rfl rfl (by omega)) ?_
    refine Ops.q (q_ldO isA_3 rfl (.there (.there (.there (.there (.there (.there .here)))))) (fm_at0 eInt_len hx4 rfl)) ?_
    refine Ops.q (q_asg rfl) ?_
    refine Ops.to rfl ?_
    refine Cd.seq ?_
    refine Cd.region ?_
    refine Ops.q (q_mv rfl) ?_
    refine Ops.q (q_mv rfl) ?_
    have hp1 : ∃ post, (fired.take j).flatMap (filt ss) ++ filt ss x3 ++ post = metS ss fired ids := ⟨(fired.drop (j + 1)).flatMap (filt ss) ++ ids.flatMap (fun i => filt ss (-1 - i)), by unfold metS; rw [fmS _ hx4]; simp⟩
    refine Ops.cv (α := Unit) (k := 118) (first := []) (caps := [.pointer (some ⟨mb, 0, none⟩), .pointer (some ⟨b1, 0, none⟩)]) (vs := [.int .i64 x3]) (v := fun _ => .bool true) (A' := fun _ => [bun (J ((fired.take j).flatMap (filt ss) ++ filt ss x3)), blk mb 176 [.map (some M)], blk b1 208 [.func (.yield l) #[] #[]], rd (wφ M E), blk fb 26 [.slice (some ⟨rb5, 0, none⟩) fired.length fc], blk ib 26 [.slice ia ids.length ic], row (some ⟨rb5, 0, none⟩) fc 3 1 fired.length (fired.flatMap eInt), row ia ic 3 1 ids.length (ids.flatMap eInt)]) en_118 rfl rfl (fun w hs => (from118_c J l (metS ss fired ids) _ x3 mb b1 M E ss hW w0 w _ hp1 (filt_le hlen _) hy hs).mono fun e w' h => ⟨(), h⟩) ?_
    intro _
    refine Ops.q (q_not rfl) ?_
    refine Ops.to rfl ?_
    refine Cd.cond_f rfl ?_
    refine Cd.skipTo rfl ?_
    refine Cd.region ?_
    refine Ops.q (q_ar rfl rfl (a_inc (by omega))) ?_
    refine Ops.q (q_mv rfl) ?_
    refine Ops.rnd (j + 1) rfl (by omega) (by omega) ⟨rfl, rfl, rfl, rfl, rfl, trivial⟩ (fun _ hs => by (try dsimp only); rw [fmT _ hx4]; exact hs) 
  · refine Ops.q (q_cmp rfl rfl (c_nlt (by omega))) ?_
    refine Ops.to rfl ?_
    refine Cd.seq ?_
    refine Cd.cond_f rfl ?_
    refine Cd.exitTo rfl ?_
    refine Cd.seq ?_
    refine Cd.region ?_
    refine Ops.q (q_ldB isA_26 rfl (.there (.there (.there (.there (.there .here))))) rfl) ?_
    refine Ops.q (q_len esz_26 rfl) ?_
    refine Ops.q (q_mv rfl) ?_
    refine Ops.to rfl ?_
    refine Cd.block ?_
    refine Cd.lp (σ := Nat) (fun j => j ≤ ids.length) (fun j => [(5, .func (.func 118) [].toArray [.pointer (some ⟨mb, 0, none⟩), .pointer (some ⟨b1, 0, none⟩)].toArray), (22, .slice ia ids.length ic), (23, .int .i64 (ids.length : Int)), (24, .int .i64 (j : Int))]) (fun j => [bun (J (fired.flatMap (filt ss) ++ (ids.take j).flatMap (fun i => filt ss (-1 - i)))), blk mb 176 [.map (some M)], blk b1 208 [.func (.yield l) #[] #[]], rd (wφ M E), blk fb 26 [.slice fa fired.length fc], blk ib 26 [.slice ia ids.length ic], row fa fc 3 1 fired.length (fired.flatMap eInt), row ia ic 3 1 ids.length (ids.flatMap eInt)]) (fun j => ids.length - j) 0 (Nat.zero_le _) ⟨rfl, rfl, rfl, rfl, trivial⟩ (fun _ hs => by have h1 := ((((((((hs.pull (.there (.there (.there (.there (.there (.there (.there .here)))))))).pull (.there (.there (.there (.there (.there (.there (.there .here)))))))).pull (.there (.there (.there (.there (.there (.there (.there .here)))))))).pull (.there (.there (.there (.there (.there (.there (.there .here)))))))).pull (.there (.there (.there (.there (.there (.there (.there .here)))))))).pull (.there (.there (.there (.there (.there (.there (.there .here)))))))).pull (.there (.there (.there (.there (.there (.there (.there .here)))))))).pull (.there (.there (.there (.there (.there (.there (.there .here)))))))); (try dsimp only); rw [show fired.flatMap (filt ss) ++ (ids.take 0).flatMap (fun i => filt ss (-1 - i)) = (fired.take j).flatMap (filt ss) from by rw [List.take_of_length_le (show fired.length ≤ j by omega)]; exact List.append_nil _]; exact h1) ?_
    intro j hI
    refine Cd.seq ?_
    refine Cd.region ?_
    by_cases h6 : (j : Int) < (ids.length : Int)
    · refine Ops.q (q_cmp rfl rfl (c_lt h6)) ?_
      obtain ⟨x7, hx8⟩ : ∃ x, ids[j]? = some x := ⟨_, List.getElem?_eq_getElem (by omega)⟩
      refine Ops.rowpos (.there (.there (.there (.there (.there (.there (.there .here))))))) (by omega) ?_
      rintro rb9 rfl
      have hid := hids _ (List.mem_iff_getElem?.2 ⟨j, hx8⟩)
      refine Ops.to rfl ?_
      refine Cd.seq ?_
      refine Cd.cond_t rfl ?_
      refine Cd.skipTo rfl ?_
      refine Cd.seq ?_
      refine Cd.block ?_
      refine Cd.seq ?_
      refine Cd.region ?_
      refine Ops.q (q_ix (k := j) esz_26 rfl rfl (by omega)) ?_
      refine Ops.q (q_ldO isA_3 rfl (.there (.there (.there (.there (.there (.there (.there .here))))))) (fm_at0 eInt_len hx8 rfl)) ?_
      refine Ops.q (q_asg rfl) ?_
      refine Ops.to rfl ?_
      refine Cd.seq ?_
      refine Cd.region ?_
      refine Ops.q (q_mv rfl) ?_
      refine Ops.q (q_mv rfl) ?_
      refine Ops.q (q_ar rfl rfl (a_sub (by unfold wi at hid; omega))) ?_
      have hp1 : ∃ post, fired.flatMap (filt ss) ++ (ids.take j).flatMap (fun i => filt ss (-1 - i)) ++ filt ss (-1 - x7) ++ post = metS ss fired ids := ⟨(ids.drop (j + 1)).flatMap (fun i => filt ss (-1 - i)), by unfold metS; rw [fmS (fun i => filt ss (-1 - i)) hx8]; simp⟩
      refine Ops.cv (α := Unit) (k := 118) (first := []) (caps := [.pointer (some ⟨mb, 0, none⟩), .pointer (some ⟨b1, 0, none⟩)]) (vs := [.int .i64 (-1 - x7)]) (v := fun _ => .bool true) (A' := fun _ => [bun (J (fired.flatMap (filt ss) ++ (ids.take j).flatMap (fun i => filt ss (-1 - i)) ++ filt ss (-1 - x7))), blk mb 176 [.map (some M)], blk b1 208 [.func (.yield l) #[] #[]], rd (wφ M E), blk fb 26 [.slice fa fired.length fc], blk ib 26 [.slice (some ⟨rb9, 0, none⟩) ids.length ic], row fa fc 3 1 fired.length (fired.flatMap eInt), row (some ⟨rb9, 0, none⟩) ic 3 1 ids.length (ids.flatMap eInt)]) en_118 rfl rfl (fun w hs => (from118_c J l (metS ss fired ids) _ (-1 - x7) mb b1 M E ss hW w0 w _ hp1 (filt_le hlen _) hy hs).mono fun e w' h => ⟨(), h⟩) ?_
      intro _
      refine Ops.q (q_not rfl) ?_
      refine Ops.to rfl ?_
      refine Cd.cond_f rfl ?_
      refine Cd.skipTo rfl ?_
      refine Cd.region ?_
      refine Ops.q (q_ar rfl rfl (a_inc (by omega))) ?_
      refine Ops.q (q_mv rfl) ?_
      refine Ops.rnd (j + 1) rfl (by omega) (by omega) ⟨rfl, rfl, rfl, rfl, trivial⟩ (fun _ hs => by (try dsimp only); rw [fmT _ hx8, ← List.append_assoc]; exact hs) 
    · refine Ops.q (q_cmp rfl rfl (c_nlt (by omega))) ?_
      refine Ops.to rfl ?_
      refine Cd.seq ?_
      refine Cd.cond_f rfl ?_
      refine Cd.exitFin (fn := Try.f117) (by with_reducible repeat (first | exact xq_here | apply xq_then | apply xq_block | apply nq_block)) rfl ?_
      intro w' hs
      have h1 := ((((((((hs.pull (.there (.there (.there .here)))).pull (.there (.there (.there (.there (.there (.there (.there .here)))))))).pull (.there (.there (.there (.there (.there (.there (.there .here)))))))).pull (.there (.there (.there (.there (.there (.there (.there .here)))))))).pull (.there (.there (.there (.there (.there (.there (.there .here)))))))).pull (.there (.there (.there (.there (.there (.there .here))))))).pull (.there (.there (.there (.there (.there (.there .here))))))).pull (.there (.there (.there (.there (.there (.there (.there .here)))))))).drop
      rw [List.take_of_length_le (show ids.length ≤ j by omega)] at h1
      exact ⟨rfl, h1⟩
end Go.Proofs.Ytilcdghliigngaa
namespace Go.Proofs.YtilcdghliigngaaGl
set_option linter.unusedVariables false
set_option linter.unusedSimpArgs false
open Go.RowKit
section
variable {P : Program} {r : Option Nat} {ops : Array Oper} {Q : Exit → Act → World → Prop} {w0 : World} {n : Nat} {D : List Deferred} {rest : List Oper} {L : Env} {A : List Atom}
def MidQ {β : Type} (w0 : World) (n : Nat) (L1 : β → Env) (A1 : β → List Atom) (Y : List Atom) : Exit → Act → World → Prop := fun e a w => e = .normal ∧ ∃ b, Kn n [] (L1 b) a ∧ Sat w0 w (A1 b ++ Y)
def EndQ (w0 : World) (A2 Y : List Atom) : Exit → Act → World → Prop := fun e _ w => e = .normal ∧ Sat w0 w (A2 ++ Y)
theorem Ops.mid {β : Type} {L1 : β → Env} {A1 : β → List Atom} {Y : List Atom} (b : β) (hL : Sub (L1 b) L) (hA : ∀ w, Sat w0 w A → Sat w0 w (A1 b ++ Y)) : Ops P r ops (MidQ w0 n L1 A1 Y) w0 n [] [] L A :=
  Ops.nil (fun _ w hk hs => ⟨rfl, b, hk.sub hL, hA w hs⟩)
theorem nq_nq {Q : Exit → Act → World → Prop} {X : Act → World → Prop} (h : Q .normal = X) : NQ (fun a w => Q .normal a w) .normal = X := h
theorem nq_end {A2 Y : List Atom} : EndQ w0 A2 Y .normal = EndQ w0 A2 Y .normal := rfl
theorem Ops.endQ {A2 Y : List Atom} (hq : Q .normal = EndQ w0 A2 Y .normal) (hA : ∀ w, Sat w0 w A → Sat w0 w (A2 ++ Y)) : Ops P r ops Q w0 n [] [] L A :=
  Ops.nil (fun _ w hk hs => by rw [hq]; exact ⟨rfl, hA w hs⟩)
theorem Cd.endQ {A2 Y : List Atom} (hq : Q .normal = EndQ w0 A2 Y .normal) (hA : ∀ w, Sat w0 w A → Sat w0 w (A2 ++ Y)) : Cd P r .skip Q w0 n [] L A :=
  Cd.skip (fun _ w hk hs => by rw [hq]; exact ⟨rfl, hA w hs⟩)
theorem Sat.toEnd {w : World} {a : Atom} {B X : List Atom} (h : Sat w0 w (a :: (B ++ X))) : Sat w0 w (B ++ a :: X) := Sat.push h (Pull.right .here B)
theorem Sat.toTop {w : World} {a : Atom} {B X : List Atom} (h : Sat w0 w (B ++ a :: X)) : Sat w0 w (a :: (B ++ X)) := h.pull (Pull.right .here B)
theorem Ops.val0 {α : Type} {o : Oper} {v : α → Value} {A' : α → List Atom} (hg : gd ops L o = some true) (hd : o.dst = none) (hnd : noDefer o.op = true)
    (hrun : ∀ a w, Kn n D L a → Sat w0 w A → ∃ x w', (execOp a.eval o).run P w = .ok (.value (v x)) w' ∧ Sat w0 w' (A' x))
    (h : ∀ x, Ops P r ops Q w0 n D rest L (A' x)) : Ops P r ops Q w0 n D (o :: rest) L A := by
  intro a w hk hs
  unfold wpListIn
  rw [hk.gd hg]
  simp only [if_true]
  obtain ⟨x, w', hr, hs'⟩ := hrun a w hk hs
  refine ⟨fun _ _ => trivial, ?_⟩
  rw [semAt_noDefer _ _ hnd, hr, Oper.uponIn_value, hd]
  exact h x _ _ hk hs'
theorem run_clr {T E : TypeId} {zs cs cs' : List Value} {sz by_ m cap : Nat} {a : Option Addr} {A' : List Atom} (hT : elT P T = some E) (hE : zsb P E = some (zs, sz, by_)) (h1 : ∀ u ∈ zs, u.oneCell' = true)
    (hr : rep m zs = cs') (hu : Upd A (row a cap E sz m cs) (row a cap E sz m cs') A') (ty : TypeId) (cc : Array Bool) (w : World) (hs : Sat w0 w A) : ∃ w', (builtin .clear #[T] ty cc #[.slice a m cap]).run P w = .ok (.value (.tuple #[])) w' ∧ Sat w0 w' A' := by
  subst hr
  obtain ⟨i, z, hi, hz, hsz, hby, hzs, hzl⟩ := zsb_u hE
  obtain ⟨R, hp, hp'⟩ := hu.pull
  obtain ⟨S, hS, _, hgo⟩ := (hs.pull hp).step
  obtain ⟨⟨hlen, hown⟩, hSb⟩ := hS
  have hzl' : zs.length = sz := by rw [← hzl, Array.length_toList, hzs]
  rcases Nat.eq_zero_or_pos m with h0 | hm
  · subst h0
    have hc0 : cs = [] := List.eq_nil_of_length_eq_zero (by simpa using hlen)
    subst hc0
    refine ⟨w, ?_, Sat.push ?_ hp'⟩
    · cases a <;> simp [builtin, Builtin.clear_, run_underlying (elT_u hT)]
    · exact hgo (S' := S) ⟨⟨by simp [rep], hown⟩, hSb⟩ (fun _ h => .inl h) rfl rfl rfl (Nat.le_refl _) (fun _ _ _ => rfl)
  rcases hown with ⟨_, h0⟩ | ⟨b', cap', cur, hv0, _, hh, h2, h3, h4, h5⟩
  · omega
  · cases hv0
    have hcl : m * sz ≤ cur.size := Nat.le_trans (Nat.mul_le_mul_right sz h2) (by rw [h4]; exact Nat.le_refl _)
    have e : cur = (cs ++ cur.toList.drop (m * sz)).toArray := by
      apply Array.toList_inj.1
      simp only [← h5, List.take_append_drop]
    have hh' : w.heap[b']? = some (.cells (cs ++ cur.toList.drop (m * sz)).toArray E (0, 0)) := by rw [← e]; exact hh
    have hzc : (Builtin.zeroCells z.cells m).toList = rep m zs := by rw [← hzl, ← rep_eq]; rfl
    have hone : ∀ u ∈ rep m zs, u.oneCell' = true := by
      intro u hu2
      simp only [rep, List.mem_flatten, List.mem_replicate] at hu2
      obtain ⟨l, ⟨_, hl⟩, hu3⟩ := hu2
      exact h1 u (hl ▸ hu3)
    have hst := run_storeCells_at P b' 0 E (rep m zs) 0 (cs ++ cur.toList.drop (m * sz)).toArray w hh' (by rw [rep_length, hzl']; simp only [List.size_toArray, List.length_append, hlen]; omega) hone
    simp only [Nat.add_zero, Nat.zero_add, List.take_zero, List.nil_append] at hst
    have e2 : (cs ++ cur.toList.drop (m * sz)).drop (rep m zs).length = cur.toList.drop (m * sz) := by
      rw [rep_length, hzl', ← hlen]; simp
    refine ⟨w.setRow b' (rep m zs ++ cur.toList.drop (m * sz)).toArray, ?_, Sat.push ?_ hp'⟩
    · obtain ⟨m', rfl⟩ : ∃ m', m = m' + 1 := ⟨m - 1, by omega⟩
      have hzv : ∀ w, (zeroValue E).run P w = .ok z w := fun w => by simp [zeroValue, typeInfo, hi, hz]
      simp only [builtin, Sem.run_bind, Sem.run_pure, Result.andThen_ok, Builtin.clear_]
      simp [run_underlying (elT_u hT), hzv, hzc, hst, e2]
    · refine hgo (S' := fun k => k = b') ⟨⟨by rw [rep_length, hzl'], .inr ⟨b', cap, _, rfl, Nat.zero_le _, setRow_heap w b' _ _ E _ hh, h2, h3, ?_, ?_⟩⟩, fun k => by simp [Value.ownBlock, eq_comm]⟩ (fun k hk => .inl ((hSb k).2 (by simp [Value.ownBlock, hk])))
        rfl rfl rfl (by simp) (fun k _ hk => setRow_other w b' k _ (fun e => hk ((hSb k).2 (by simp [Value.ownBlock, e]))))
      · simp only [List.size_toArray, List.length_append, List.length_drop, Array.length_toList, rep_length, hzl', h4]
        rw [h4] at hcl
        omega
      · simp only [List.toList_toArray]
        rw [show m * sz = (rep m zs).length by rw [rep_length, hzl']]
        exact List.take_left
theorem Ops.clr2 {ty : TypeId} {pos : String} {af : Array Edge} {g : Option (Nat × Bool)} {T E : TypeId} {x : Operand} {zs cs cs' : List Value} {sz by_ m cap : Nat} {a : Option Addr} {A' : List Atom} (hT : elT P T = some E) (hE : zsb P E = some (zs, sz, by_)) (hx : ev L x = some (.slice a m cap)) (h1 : ∀ u ∈ zs, u.oneCell' = true)
    (hr : rep m zs = cs') (hu : Upd A (row a cap E sz m cs) (row a cap E sz m cs') A') (h : Ops P r ops Q w0 n D rest L A')
    (hg : gd ops L ⟨none, .call ⟨.builtin .clear, #[x], #[T]⟩, ty, pos, af, g⟩ = some true := by rfl) :
    Ops P r ops Q w0 n D (⟨none, .call ⟨.builtin .clear, #[x], #[T]⟩, ty, pos, af, g⟩ :: rest) L A :=
  Ops.val0 (α := Unit) (v := fun _ => .tuple #[]) (A' := fun _ => A') hg rfl rfl (fun ac w hk hs => by
    obtain ⟨w', h2, h3⟩ := run_clr hT hE h1 hr hu ty (#[x].map fun | .const _ => true | _ => false) w hs
    refine ⟨(), w', ?_, h3⟩
    simp only [execOp, resolve, invoke, hk.ev hx, List.map_toArray, List.map_cons, List.map_nil, Sem.run_bind, Sem.run_pure, Result.andThen_ok]
    exact h2) (fun _ => h)
theorem Cd.range2 {α β : Type} {gop : Operand} {ps : List Nat} {assign body y : Code} {Q' : Exit → Act → World → Prop} {k : FuncId} {caps : List Value} {enc : α → List Value} {xs : List α} {X : List Atom} (J : List α → List Atom) (L1 : α → β → Env) (A1 : List α → α → β → List Atom)
    (hI : Iter P k caps enc xs w0 X) (he : Enters P k) (hg : ev L gop = some (.func (.func k) #[] caps.toArray)) (hA : ∀ w, Sat w0 w A → Sat w0 w (J [] ++ X)) (hps : ps.all (fun p => Nat.blt p n) = true) (hsz : ∀ x, (enc x).length = ps.length)
    (hassign : ∀ (l : Nat) (Y : List Atom) (pre : List α) (x : α), (∃ post, pre ++ x :: post = xs) → Cd P (some l) assign (MidQ w0 n (L1 x) (A1 pre x) Y) w0 n [] (Lps ps (enc x) L) (J pre ++ Y))
    (hbody : ∀ (l : Nat) (Y : List Atom) (pre : List α) (x : α) (b : β), (∃ post, pre ++ x :: post = xs) → Cd P (some l) body (EndQ w0 (J (pre ++ [x])) Y) w0 n [] (L1 x b) (A1 pre x b ++ Y))
    (hq : Q .normal = y.wpIn (Fw none) 0 P Q') (hnext : ∀ d, Cd P none y Q' w0 n (mark d :: D) L (dblk d :: (J xs ++ X))) : Cd P none (.rangeFunc gop ps.toArray assign body) Q w0 n D L A := by
  intro a w hk hs
  refine wpIn_rangeFunc (F := Fw none) ?_
  intro fn _
  have hs1 := hA w hs
  let w1 := (w.alloc (.deferred (some []))).alloc (.loop { state := .ready, pending := none, fn, tmps := a.tmps, params := ps.toArray, assign, body, defers := w.heap.size })
  have hsz1 : (w.alloc (.deferred (some []))).heap.size = w.heap.size + 1 := World.size_alloc ..
  have hs2 : Sat w0 (w.alloc (.deferred (some []))) (dblk w.heap.size :: (J [] ++ X)) :=
    hs1.add (Below.alloc (Below.refl _ _) (Nat.le_refl _) _) (S := fun k => k = w.heap.size) ⟨heap_alloc_new w _, fun _ => Iff.rfl⟩ (fun _ hk => by omega)
  have hkr : Kn n [] L ⟨a.tmps, []⟩ := ⟨hk.size, rfl, hk.look⟩
  have hs3 : Sat w0 w1 (lrec .ready (w.heap.size + 1) n L ps assign body :: dblk w.heap.size :: (J [] ++ X)) := by
    refine hs2.add (Below.alloc (Below.refl _ _) (Nat.le_refl _) _) (S := fun k => k = w.heap.size + 1) ⟨⟨fn, a.tmps, w.heap.size, ?_, hkr⟩, fun _ => Iff.rfl⟩ (fun _ hk => by omega)
    have := heap_alloc_new (w.alloc (.deferred (some []))) (.loop { state := .ready, pending := none, fn, tmps := a.tmps, params := ps.toArray, assign, body, defers := w.heap.size })
    rw [hsz1] at this
    exact this
  refine ⟨w.heap.size + 1, [mark w.heap.size], w1, ⟨.fn (.func k) caps.toArray, #[.func (.yield (w.heap.size + 1)) #[] #[]]⟩, w1, k, (.func (.yield (w.heap.size + 1)) #[] #[] :: caps).toArray, w1, run_enterLoop_outer .., ?_, fun _ _ => trivial, ?_, fun h => by simp at h, ?_⟩
  · have e1 : a.eval gop = .func (.func k) #[] caps.toArray := hk.ev hg
    simp only [resolve, e1, Deferred.ofValue]
    simp [Act.eval]
  · have := he (.func (.yield (w.heap.size + 1)) #[] #[] :: caps).toArray w1
    simpa [invoke] using this
  · have hb : Sat w0 w1 (bun (J [] ++ [lrec .ready (w.heap.size + 1) n L ps assign body, dblk w.heap.size]) :: X) := by
      refine Sat.bundle ?_
      rw [List.append_assoc]
      have h5 : Sat w0 w1 (dblk w.heap.size :: (J [] ++ lrec .ready (w.heap.size + 1) n L ps assign body :: X)) := Sat.toEnd (B := dblk w.heap.size :: J []) hs3
      have h6 := Sat.toEnd h5
      exact Sat.push ((h6.pull (Pull.right (.there .here) (J [])))) (Pull.right .here (J []))
    have hc := hI (fun pre => J pre ++ [lrec .ready (w.heap.size + 1) n L ps assign body, dblk w.heap.size]) (w.heap.size + 1) w1 ?_ hb
    · refine callsIn_Fw (hc.mono fun e w' hh => ?_)
      obtain ⟨rfl, hs'⟩ := hh
      have hs' := hs'.unbundle
      rw [List.append_assoc] at hs'
      have hs' := Sat.toTop (a := lrec .ready (w.heap.size + 1) n L ps assign body) (X := dblk w.heap.size :: X) hs'
      obtain ⟨S, ⟨⟨fn', tmps', d', h1, h2⟩, h3⟩⟩ := hs'.mem .here
      refine ⟨none, _, run_endLoop h1 (by simp), ?_⟩
      simp only []
      rw [hq]
      refine hnext w.heap.size _ _ ⟨hk.size, by simp [hk.defers], hk.look⟩ ?_
      have h4 := putObj_step (a' := junk (w.heap.size + 1)) (o' := .loop { state := .exhausted, pending := none, fn := fn', tmps := tmps', params := ps.toArray, assign, body, defers := d' }) hs' h1 (fun S h => h.2) (fun S h => ⟨by
        have hlt := (Array.getElem?_eq_some_iff.1 h1).1
        simp [World.putObj, hlt], h.2⟩)
      exact Sat.toTop h4.drop
    · intro Y pre x w' hpost hsy
      have hsy := hsy.unbundle
      rw [List.append_assoc] at hsy
      obtain ⟨S, ⟨⟨fn', tmps', d', h1, h2⟩, h3⟩⟩ := (Sat.toTop (a := lrec .ready (w.heap.size + 1) n L ps assign body) (X := dblk w.heap.size :: Y) hsy).mem .here
      refine ⟨fn', _, assign, body, run_yield h1 (by simp [hsz]), ?_⟩
      refine roundIn_of_wpIn (F := Fw none) trivial ?_
      have hkx := Kn.params ps (enc x) L tmps' (fun p hp => by simpa [Nat.blt_eq] using List.all_eq_true.1 hps p hp) h2
      have hr := hassign (w.heap.size + 1) (lrec .ready (w.heap.size + 1) n L ps assign body :: dblk w.heap.size :: Y) pre x hpost ⟨_, []⟩ w' hkx hsy
      have e : (ps.toArray.zip (enc x).toArray).foldl (fun (tmps : Array Value) (p : Nat × Value) => tmps.setIfInBounds p.1 p.2) tmps' = (ps.zip (enc x)).foldl (fun t p => t.setIfInBounds p.1 p.2) tmps' := by
        rw [List.zip_toArray, List.foldl_toArray]
      show Code.wpIn _ _ _ _ _ ⟨_, []⟩ w'
      rw [show (ps.toArray.zip (enc x).toArray).foldl (fun (tmps : Array Value) (x : Nat × Value) => match x with | (t, a) => tmps.setIfInBounds t a) tmps' = (ps.zip (enc x)).foldl (fun t p => t.setIfInBounds p.1 p.2) tmps' from e]
      refine wpIn_mono hr (fun e a1 w1 hh => ?_)
      obtain ⟨rfl, b, hk1, hs1⟩ := hh
      have hs2 := Sat.toTop hs1
      obtain ⟨S, ⟨⟨fn2, tmps2, d2, g1, g2⟩, g3⟩⟩ := hs2.mem .here
      have h7 := putObj_step (a' := lrec .busy (w.heap.size + 1) n L ps assign body) (o' := .loop { state := .busy, pending := none, fn := fn2, tmps := tmps2, params := ps.toArray, assign, body, defers := d2 }) hs2 g1 (fun S h => h.2) (fun S h => ⟨⟨fn2, tmps2, d2, by
        have hlt := (Array.getElem?_eq_some_iff.1 g1).1
        simp [World.putObj, hlt], g2⟩, h.2⟩)
      refine ⟨_, run_beginRound g1 rfl, ?_⟩
      refine wpIn_mono (hbody (w.heap.size + 1) (lrec .busy (w.heap.size + 1) n L ps assign body :: dblk w.heap.size :: Y) pre x b hpost a1 _ hk1 (Sat.toEnd h7)) (fun e a2 w2 hh => ?_)
      obtain ⟨rfl, hs3⟩ := hh
      have hs4 := Sat.toTop hs3
      obtain ⟨S, ⟨⟨fn3, tmps3, d3, g1, g2⟩, g3⟩⟩ := hs4.mem .here
      have h8 := putObj_step (a' := lrec .ready (w.heap.size + 1) n L ps assign body) (o' := .loop { state := .ready, pending := none, fn := fn3, tmps := tmps3, params := ps.toArray, assign, body, defers := d3 }) hs4 g1 (fun S h => h.2) (fun S h => ⟨⟨fn3, tmps3, d3, by
        have hlt := (Array.getElem?_eq_some_iff.1 g1).1
        simp [World.putObj, hlt], g2⟩, h.2⟩)
      refine ⟨_, _, run_endRound none g1, rfl, Sat.bundle ?_⟩
      rw [List.append_assoc]
      exact Sat.toEnd h8
end
end Go.Proofs.YtilcdghliigngaaGl
namespace Go.Proofs.Ytilcdghliigngaa
open Go.RowKit Go.Proofs.YtilcdghliigngaaGl Go.Proofs.YtilcdghliigngaaPm
set_option linter.unusedVariables false
set_option linter.unusedSimpArgs false
theorem fm_atN {α : Type} {enc : α → List Value} {sz : Nat} (h : ∀ x, (enc x).length = sz) {xs : List α} {k : Nat} {x : α} (hx : xs[k]? = some x) : ((xs.flatMap enc).drop (0 + k * sz)).take (enc x).length = enc x := by
  rw [Nat.zero_add]
  induction xs generalizing k with
  | nil => simp at hx
  | cons y ys ih =>
    cases k with
    | zero =>
      obtain rfl : y = x := by simpa using hx
      simp
    | succ k =>
      rw [List.flatMap_cons, Nat.succ_mul, Nat.add_comm, List.drop_append, List.drop_of_length_le (by rw [h]; omega), h y, Nat.add_sub_cancel_left, List.nil_append]
      exact ih (by simpa using hx)
theorem Pull.left {a : Atom} {X X' : List Atom} (h : Pull X a X') (Y : List Atom) : Pull (X ++ Y) a (X' ++ Y) := by
  induction h with
  | here => exact .here
  | there _ ih => exact .there ih
theorem metS_mem {ss : List Syn} {fired ids : List Int} {s : Syn} (h : s ∈ metS ss fired ids) : s ∈ ss := by
  unfold metS filt at h
  rcases List.mem_append.1 h with h | h
  · obtain ⟨_, _, h⟩ := List.mem_flatMap.1 h; exact (List.mem_filter.1 h).1
  · obtain ⟨_, _, h⟩ := List.mem_flatMap.1 h; exact (List.mem_filter.1 h).1
theorem fm_set {α : Type} {enc : α → List Value} {sz : Nat} (h : ∀ x, (enc x).length = sz) : ∀ (xs : List α) (k : Nat) (y : α), k < xs.length → (xs.flatMap enc).take (0 + k * sz) ++ enc y ++ (xs.flatMap enc).drop (0 + k * sz + (enc y).length) = (xs.set k y).flatMap enc
  | [], k, y, hk => by simp at hk
  | x :: xs, 0, y, hk => by
    rw [h, ← h x]; simp
  | x :: xs, k + 1, y, hk => by
    have ih := fm_set h xs k y (by simpa using hk)
    have e1 : 0 + (k + 1) * sz = (enc x).length + (0 + k * sz) := by rw [h, Nat.succ_mul]; omega
    rw [e1]
    simp only [List.flatMap_cons, List.set_cons_succ, List.append_assoc]
    rw [List.take_append, List.take_of_length_le (by omega), Nat.add_sub_cancel_left, Nat.add_assoc, List.drop_append, List.drop_of_length_le (by omega), Nat.add_sub_cancel_left]
    simp only [List.append_assoc, List.nil_append] at ih ⊢
    rw [ih]
theorem upd_get {α : Type} {f : α → Atom} : ∀ {E : List α} {i : Nat} {e e' : α}, E[i]? = some e → Upd (E.map f) (f e) (f e') ((E.set i e').map f)
  | [], i, e, _, h => by simp at h
  | x :: E, 0, e, _, h => by obtain rfl : x = e := by simpa using h
                             exact .here
  | x :: E, i + 1, e, _, h => .there (upd_get (by simpa using h))
def addQ (now : Nat) (q : List (Nat × List Int)) (s : Syn) : List (Nat × List Int) := q.modify (((now : Int) + s.dl) % 16).toNat fun x => (x.1, x.2.modify s.dst.toNat fun v => IntKind.i64.wrap (v + s.wt))
def clrQ (now n : Nat) (q : List (Nat × List Int)) : List (Nat × List Int) := q.modify (now % 16) fun x => (x.1, List.replicate n 0)
theorem modify_set {α : Type} {f : α → α} {xs : List α} {k : Nat} {x : α} (h : xs[k]? = some x) : xs.modify k f = xs.set k (f x) := by
  obtain ⟨hk, he⟩ := List.getElem?_eq_some_iff.1 h
  apply List.ext_getElem?
  intro j
  rw [List.getElem?_modify, List.getElem?_set]
  by_cases hj : k = j
  · subst hj; simp [hk, he]
  · simp [hj]
theorem addQ_set {now : Nat} {q : List (Nat × List Int)} {s : Syn} {j dn : Nat} {x : Nat × List Int} {v : Int} (hj : ((now : Int) + s.dl) % 16 = (j : Int)) (hd : s.dst = (dn : Int)) (hx : q[j]? = some x) (hv : x.2[dn]? = some v) : addQ now q s = q.set j (x.1, x.2.set dn (IntKind.i64.wrap (v + s.wt))) := by
  unfold addQ
  rw [hj, hd, Int.toNat_natCast, Int.toNat_natCast, modify_set hx, modify_set hv]
theorem cells_modify {n : Nat} (q : List (Nat × List Int)) (k : Nat) (f : Nat × List Int → Nat × List Int) (hf : ∀ x, (f x).1 = x.1) : (q.modify k f).map (rcell n) = q.map (rcell n) := by
  apply List.ext_getElem?
  intro j
  simp only [List.getElem?_map, List.getElem?_modify]
  by_cases hj : k = j
  · subst hj; cases q[k]? <;> simp [rcell, hf]
  · simp [hj]
def ringOK (n : Nat) (q : List (Nat × List Int)) : Prop := q.length = 16 ∧ ∀ x ∈ q, x.2.length = n
theorem ringOK.add {n now : Nat} {q : List (Nat × List Int)} (h : ringOK n q) (s : Syn) : ringOK n (addQ now q s) := by
  refine ⟨by simp [addQ, h.1], fun x hx => ?_⟩
  obtain ⟨j, hj⟩ := List.mem_iff_getElem?.1 hx
  simp only [addQ, List.getElem?_modify] at hj
  cases hq : q[j]? with
  | none => rw [hq] at hj; simp at hj
  | some y =>
    have := h.2 y (List.mem_iff_getElem?.2 ⟨j, hq⟩)
    rw [hq] at hj
    simp at hj
    split at hj <;> subst hj <;> simpa using this
theorem ringOK.addAll {n now : Nat} : ∀ (l : List Syn) {q : List (Nat × List Int)}, ringOK n q → ringOK n (l.foldl (addQ now) q)
  | [], _, h => h
  | s :: l, _, h => ringOK.addAll l (h.add s)
theorem ringOK.clr {n now : Nat} {q : List (Nat × List Int)} (h : ringOK n q) : ringOK n (clrQ now n q) := by
  refine ⟨by simp [clrQ, h.1], fun x hx => ?_⟩
  obtain ⟨j, hj⟩ := List.mem_iff_getElem?.1 hx
  simp only [clrQ, List.getElem?_modify] at hj
  cases hq : q[j]? with
  | none => rw [hq] at hj; simp at hj
  | some y =>
    have := h.2 y (List.mem_iff_getElem?.2 ⟨j, hq⟩)
    rw [hq] at hj
    simp at hj
    split at hj <;> subst hj <;> simp [this]
theorem foldl_snoc {α β : Type} (f : β → α → β) (b : β) (l : List α) (x : α) : (l ++ [x]).foldl f b = f (l.foldl f b) x := by simp
theorem sim_cells {S n : Nat} {pre : List Value} {w0 w : World} {A : List Atom} {q : List (Nat × List Int)} {k : Nat} {f : Nat × List Int → Nat × List Int} (hf : ∀ x, (f x).1 = x.1) (h : Sat w0 w (blk S 182 (pre ++ q.map (rcell n)) :: A)) : Sat w0 w (blk S 182 (pre ++ (q.modify k f).map (rcell n)) :: A) := by
  rw [cells_modify q k f hf]; exact h
theorem from101_c (M : Nat) (fa : Option Addr) (fn fc : Nat) (ia : Option Addr) (m ic : Nat) (w : World) : Calls Try.prog 101 [.map (some M), .slice fa fn fc, .slice ia m ic].toArray w fun e w' => ∃ x : Nat × Nat × Nat, e = .returned (.func (.func 117) #[] #[.pointer (some ⟨x.1, 0, none⟩), .pointer (some ⟨x.2.1, 0, none⟩), .pointer (some ⟨x.2.2, 0, none⟩)]) ∧ Sat w w' [blk x.1 176 [.map (some M)], blk x.2.1 26 [.slice fa fn fc], blk x.2.2 26 [.slice ia m ic]] := by
  refine fstart Try.func101 rfl rfl (Sat.nil w) ?_
  refine Cd.seq ?_
  refine Cd.region ?_
  refine Ops.box [.map (some M)] rfl rfl ?_
  intro b1
  refine Ops.box [.slice fa fn fc] rfl rfl ?_
  intro b2
  refine Ops.box [.slice ia m ic] rfl rfl ?_
  intro b3
  refine Ops.q (q_asg rfl) ?_
  refine Ops.to rfl ?_
  refine Cd.seq ?_
  refine Cd.region ?_
  refine Ops.q (q_mkf rfl rfl) ?_
  refine Ops.q (q_asg rfl) ?_
  refine Ops.to rfl ?_
  refine Cd.rt (fn := Try.f101) [.func (.func 117) #[] #[.pointer (some ⟨b1, 0, none⟩), .pointer (some ⟨b2, 0, none⟩), .pointer (some ⟨b3, 0, none⟩)]] (by with_reducible repeat (first | exact rq_here | apply rq_then | apply rq_block)) rfl ⟨rfl, trivial⟩ ?_
  intro w' hs
  exact ⟨(b1, b2, b3), rfl, (((hs.pull .here).pull (.there .here)).pull (.there (.there .here)))⟩
theorem Sat.swapTail {w0 w : World} {A B C : List Atom} (h : Sat w0 w (A ++ (B ++ C))) : Sat w0 w (A ++ (C ++ B)) := by
  obtain ⟨hB, T, hs, ht⟩ := h
  obtain ⟨S, U, h1, h2, h3, h4⟩ := Sats.split hs
  obtain ⟨S2, U2, g1, g2, g3, g4⟩ := Sats.split h2
  have k1 := Sats.append g1 g2 (fun k hk hs => g3 k hs hk)
  have k2 := Sats.append k1 h1 (fun k hk hs => h3 k hk ((g4 k).2 hs.symm))
  exact ⟨hB, _, k2, fun k hk => ht k ((h4 k).2 (hk.imp id (fun h => (g4 k).2 h.symm)))⟩
theorem toEnd6 {w0 w : World} {a b c d e1 e2 e3 e4 e5 e6 : Atom} {FR : List Atom} (h : Sat w0 w (a :: b :: c :: d :: e1 :: e2 :: e3 :: e4 :: e5 :: e6 :: FR)) : Sat w0 w ((a :: b :: c :: d :: FR) ++ [e1, e2, e3, e4, e5, e6]) :=
  Sat.swapTail (A := [a, b, c, d]) (B := [e1, e2, e3, e4, e5, e6]) (C := FR) h
theorem fromEnd6 {w0 w : World} {a b c e1 e2 e3 e4 e5 e6 : Atom} {FR : List Atom} (h : Sat w0 w (a :: b :: c :: (FR ++ [e1, e2, e3, e4, e5, e6]))) : Sat w0 w (a :: b :: c :: e6 :: e4 :: FR) := by
  have h1 : Sat w0 w (a :: b :: c :: e1 :: e2 :: e3 :: e4 :: e5 :: e6 :: FR) := Sat.swapTail (A := [a, b, c]) (B := FR) (C := [e1, e2, e3, e4, e5, e6]) h
  have h2 := (h1.pull (.there (.there (.there .here)))).drop
  have h3 := (h2.pull (.there (.there (.there .here)))).drop
  have h4 := (h3.pull (.there (.there (.there .here)))).drop
  have h5 := (h4.pull (.there (.there (.there (.there .here))))).drop
  exact (((h5.pull (.there (.there (.there (.there .here))))).pull (.there (.there (.there .here)))).pull (.there (.there (.there .here)))).pull (.there (.there (.there .here)))
theorem step_c (S : Nat) (na : Option Addr) (nc : Nat) (sa : Option Addr) (sc : Nat) (ns : List Prm) (ip : Int) (m : Nat) (M : Nat) (E : List WEnt) (now : Nat) (B : Nat) (sts : List Stt) (q : List (Nat × List Int)) (F : List Atom) (ia : Option Addr) (ic : Nat) (ids : List Int) (ss : List Syn) (x0 : Nat × List Int) (T : List (Stt × Bool)) (w0 w : World) (hW : WI E ss) (hss : ∀ s ∈ ss, wi s.dst 0 ((ns.length : Int) - 1) ∧ wi s.dl 1 16) (hlen : ss.length ≤ 8192) (hn : ns.length ≤ 1024)
    (hst : sts.length = ns.length) (hq : ringOK ns.length q) (hnow : now < 10000) (hids : ∀ i ∈ ids, wi i 0 100000) (hil : ids.length ≤ 65536) (hx0 : q[now % 16]? = some x0) (hT : T = tickAll ns sts x0.2)
    (hs : Sat w0 w (simA S na nc sa sc ns ip m M E now B sts q (row ia ic 3 1 ids.length (ids.flatMap eInt) :: F))) :
    Calls Try.prog 77 [.pointer (some ⟨S, 0, none⟩), .slice ia ids.length ic].toArray w fun e w' => ∃ p : Option Addr × Nat, e = .returned (.slice p.1 (fireI 0 T).length p.2) ∧
      Sat w0 w' (simA S na nc sa sc ns ip m M E (now + 1) B (T.map (·.1)) ((metS ss (fireI 0 T) ids).foldl (addQ now) (clrQ now ns.length q)) (row p.1 p.2 3 1 (fireI 0 T).length ((fireI 0 T).flatMap eInt) :: F)) := by
  have hx0l : x0.2.length = ns.length := hq.2 x0 (List.mem_iff_getElem?.2 ⟨_, hx0⟩)
  have hTl : T.length = ns.length := by rw [hT]; exact tickAll_length (by omega) hx0l
  have hfT := fireI_len T 0
  refine fstartM Try.func77 rfl rfl hs ?_
  refine Cd.seq ?_
  refine Cd.region ?_
  refine Ops.box [.pointer (some ⟨S, 0, none⟩)] rfl rfl ?_
  intro b1
  refine Ops.q (q_asg rfl) ?_
  refine Ops.to rfl ?_
  refine Cd.seq ?_
  refine Cd.region ?_
  refine Ops.q (q_asg rfl) ?_
  refine Ops.to rfl ?_
  refine Cd.seq ?_
  refine Cd.region ?_
  refine Ops.q (q_ldB isA_141 rfl .here rfl) ?_
  refine Ops.cm (α := Unit) (v := fun _ => rcell ns.length x0) (A' := fun _ => blk S 182 ([.slice na ns.length nc, .int .i64 ip, .slice sa m sc, .map (some M), .int .i64 (now : Int), .slice (some ⟨B, 0, none⟩) ns.length ns.length] ++ q.map (rcell ns.length)) :: blk b1 141 [.pointer (some ⟨S, 0, none⟩)] :: row (some ⟨B, 0, none⟩) ns.length 184 2 ns.length (sts.flatMap eStt) :: row na nc 116 8 ns.length (ns.flatMap ePrm) :: rd (wφ M E) :: row ia ic 3 1 ids.length (ids.flatMap eInt) :: (F ++ q.map (rrow ns.length))) en_99 rfl (fun w hs => (row_c S _ _ _ _ ns ip m M now B q (blk b1 141 [.pointer (some ⟨S, 0, none⟩)] :: row (some ⟨B, 0, none⟩) ns.length 184 2 ns.length (sts.flatMap eStt) :: row na nc 116 8 ns.length (ns.flatMap ePrm) :: rd (wφ M E) :: row ia ic 3 1 ids.length (ids.flatMap eInt) :: (F ++ q.map (rrow ns.length))) 0 (now % 16) x0 w0 w (by omega) (by omega) hx0 (by omega) (by omega) (hs.pull (.there .here))).mono fun e w' h => ⟨(), h⟩) ?_
  intro _
  refine Ops.q (q_asg rfl) ?_
  refine Ops.to rfl ?_
  refine Cd.seq ?_
  refine Cd.seq ?_
  refine Cd.region ?_
  refine Ops.q (q_mv rfl) ?_
  refine Ops.q (q_len esz_26 rfl) ?_
  refine Ops.q (q_mv rfl) ?_
  refine Ops.to rfl ?_
  refine Cd.block ?_
  refine Cd.lp (σ := Nat × Option Addr × Nat) (fun s => s.1 ≤ ns.length) (fun s => [(1, .slice ia ids.length ic), (2, .pointer (some ⟨b1, 0, none⟩)), (5, .slice s.2.1 ((fireI 0 (T.take s.1)).length) s.2.2), (6, .slice (some ⟨x0.1, 0, none⟩) ns.length ns.length), (15, .slice (some ⟨x0.1, 0, none⟩) ns.length ns.length), (16, .int .i64 (ns.length : Int)), (17, .int .i64 (s.1 : Int))]) (fun s => blk S 182 ([.slice na ns.length nc, .int .i64 ip, .slice sa m sc, .map (some M), .int .i64 (now : Int), .slice (some ⟨B, 0, none⟩) ns.length ns.length] ++ q.map (rcell ns.length)) :: row (some ⟨B, 0, none⟩) ns.length 184 2 ns.length ((midS T sts s.1).flatMap eStt) :: row na nc 116 8 ns.length (ns.flatMap ePrm) :: rd (wφ M E) :: blk b1 141 [.pointer (some ⟨S, 0, none⟩)] :: row ia ic 3 1 ids.length (ids.flatMap eInt) :: row s.2.1 s.2.2 3 1 ((fireI 0 (T.take s.1)).length) ((fireI 0 (T.take s.1)).flatMap eInt) :: (F ++ q.map (rrow ns.length))) (fun s => ns.length - s.1) (0, none, 0) (Nat.zero_le _) ⟨rfl, rfl, rfl, rfl, rfl, rfl, rfl, trivial⟩ (fun _ hs => by have h1 := ((((((hs.pull (.there (.there (.there (.there (.there .here)))))).pull (.there (.there .here))).pull (.there (.there (.there (.there (.there .here)))))).pull (.there (.there (.there (.there (.there .here)))))).pull (.there (.there (.there (.there (.there .here)))))).pull (.there (.there (.there (.there (.there .here)))))); have h2 := h1.nilRow 3 1; exact Sat.push h2 (.there (.there (.there (.there (.there (.there .here))))))) ?_
  rintro ⟨kk, oa, oc⟩ hI
  dsimp only at hI
  change Cd _ _ _ _ _ _ _ [(1, .slice ia ids.length ic), (2, .pointer (some ⟨b1, 0, none⟩)), (5, .slice oa ((fireI 0 (T.take kk)).length) oc), (6, .slice (some ⟨x0.1, 0, none⟩) ns.length ns.length), (15, .slice (some ⟨x0.1, 0, none⟩) ns.length ns.length), (16, .int .i64 (ns.length : Int)), (17, .int .i64 (kk : Int))] (blk S 182 ([.slice na ns.length nc, .int .i64 ip, .slice sa m sc, .map (some M), .int .i64 (now : Int), .slice (some ⟨B, 0, none⟩) ns.length ns.length] ++ q.map (rcell ns.length)) :: row (some ⟨B, 0, none⟩) ns.length 184 2 ns.length ((midS T sts kk).flatMap eStt) :: row na nc 116 8 ns.length (ns.flatMap ePrm) :: rd (wφ M E) :: blk b1 141 [.pointer (some ⟨S, 0, none⟩)] :: row ia ic 3 1 ids.length (ids.flatMap eInt) :: row oa oc 3 1 ((fireI 0 (T.take kk)).length) ((fireI 0 (T.take kk)).flatMap eInt) :: (F ++ q.map (rrow ns.length)))
  refine Cd.seq ?_
  refine Cd.region ?_
  by_cases hk : (kk : Int) < (ns.length : Int)
  · refine Ops.q (q_cmp rfl rfl (c_lt hk)) ?_
    obtain ⟨x2, hx3⟩ : ∃ x, ns[kk]? = some x := ⟨_, List.getElem?_eq_getElem (by omega)⟩
    refine Ops.rowpos (.there (.there .here)) (by omega) ?_
    rintro rb4 rfl
    obtain ⟨s, hs0⟩ : ∃ s, sts[kk]? = some s := ⟨_, List.getElem?_eq_getElem (by omega)⟩
    obtain ⟨v, hv⟩ : ∃ v, x0.2[kk]? = some v := ⟨_, List.getElem?_eq_getElem (by omega)⟩
    have ht : T[kk]? = some (tickP x2 s v) := by rw [hT]; exact tickAll_get hx3 hs0 hv
    have hsm : (midS T sts kk)[kk]? = some s := by rw [midS_get (by omega) (by omega)]; exact hs0
    have hml : (midS T sts kk).length = sts.length := midS_len (by omega) (by omega)
    have hfl := fireI_len (T.take kk) 0
    rw [List.length_take] at hfl
    refine Ops.to rfl ?_
    refine Cd.seq ?_
    refine Cd.cond_t rfl ?_
    refine Cd.skipTo rfl ?_
    refine Cd.seq ?_
    refine Cd.block ?_
    refine Cd.seq ?_
    refine Cd.region ?_
    refine Ops.q (q_mv rfl) ?_
    refine Ops.q (q_ix (k := kk) esz_26 rfl rfl (by omega)) ?_
    refine Ops.q (q_ldO isA_3 rfl (.there (.there (.there (.there (.there (.there (.there (Pull.right (pull_get (f := rrow ns.length) hx0) F)))))))) (fm_at0 eInt_len hv rfl)) ?_
    refine Ops.q (q_asg rfl) ?_
    refine Ops.q (q_asg rfl) ?_
    refine Ops.to rfl ?_
    refine Cd.seq ?_
    refine Cd.draw rfl (by kernel_rfl) (.cons (.there (.there (.there (.there .here)))) (.cons .here (.cons (.there .here) (.cons .here .nil)))) ?_
    intro F5 St6 hP7 hF8 hR9
    refine Dr.q (i := 0) hP7 rfl (by kernel_rfl) (q_ldB isA_141 rfl .here rfl) ?_
    refine Dr.q (i := 1) hP7 rfl (by kernel_rfl) (q_nck rfl) ?_
    refine Dr.q (i := 2) hP7 rfl (by kernel_rfl) (q_fa fo_182_0 rfl) ?_
    refine Dr.q (i := 3) hP7 rfl (by kernel_rfl) (q_fa fo_32_0 rfl) ?_
    refine Dr.q (i := 4) hP7 rfl (by kernel_rfl) (q_ldB isA_29 rfl (.there .here) rfl) ?_
    refine Dr.q (i := 5) hP7 rfl (by kernel_rfl) (q_mv rfl) ?_
    refine Dr.q (i := 6) hP7 rfl (by kernel_rfl) (q_ix (k := kk) esz_29 rfl rfl (by omega)) ?_
    refine Dr.q (i := 7) hP7 rfl (by kernel_rfl) (q_ldON [.int .i64 x2.lk, .int .i64 x2.leak, .int .i64 x2.bias, .int .i64 x2.th, .int .i64 x2.rk, .int .i64 x2.rs, .int .i64 x2.fl, .int .i64 x2.rest] isA_116 sz_116 rfl (.there (.there .here)) (fm_atN ePrm_len hx3)) ?_
    refine Dr.q (i := 8) hP7 rfl (by kernel_rfl) (q_ldB isA_141 rfl .here rfl) ?_
    refine Dr.q (i := 9) hP7 rfl (by kernel_rfl) (q_nck rfl) ?_
    refine Dr.q (i := 10) hP7 rfl (by kernel_rfl) (q_fa fo_182_3 rfl) ?_
    refine Dr.q (i := 11) hP7 rfl (by kernel_rfl) (q_ldB isA_178 rfl (.there .here) rfl) ?_
    refine Dr.q (i := 12) hP7 rfl (by kernel_rfl) (q_mv rfl) ?_
    refine Dr.q (i := 13) hP7 rfl (by kernel_rfl) (q_ix (k := kk) esz_178 rfl rfl (by omega)) ?_
    refine Dr.q (i := 14) hP7 rfl (by kernel_rfl) (q_ldON [.int .i64 s.v, .int .i64 s.rest] isA_184 sz_184 rfl (.there (.there (.there .here))) (fm_atN eStt_len hsm)) ?_
    refine Dr.q (i := 15) hP7 rfl (by kernel_rfl) (q_mv rfl) ?_
    refine Dr.e2 (i := 16) (j := 21) rfl rfl (by kernel_rfl) ?_ ?_
    · refine Ops.cp en_100 rfl (fun w hs => tick_c x2 s v w) ?_
      refine Dr.back (fun _ hs => hF8 .here hs) ?_
      refine Dr.q (i := 17) hP7 rfl (by kernel_rfl) (q_mv rfl) ?_
      refine Dr.q (i := 18) hP7 rfl (by kernel_rfl) (q_ext rfl rfl) ?_
      refine Dr.q (i := 19) hP7 rfl (by kernel_rfl) (q_ext rfl rfl) ?_
      refine Dr.q (i := 20) hP7 rfl (by kernel_rfl) (q_ext rfl rfl) ?_
      refine Dr.e (i := 21) rfl (by kernel_rfl) ?_
      refine Ops.alc [.int .i64 0, .int .i64 0] zc_184 ?_
      intro b10
      refine Dr.back (fun _ hs => hF8 (.there .here) hs) ?_
      refine Dr.e (i := 22) rfl (by kernel_rfl) ?_
      refine Ops.stB [.int .i64 ((tickP x2 s v).1.v), .int .i64 ((tickP x2 s v).1.rest)] [.int .i64 ((tickP x2 s v).1.v), .int .i64 ((tickP x2 s v).1.rest)] sz_184 rfl rfl rfl (one rfl) .here rfl rfl ?_
      refine Dr.back (fun _ hs => hF8 (.there .here) hs) ?_
      refine Dr.q (i := 23) hP7 rfl (by kernel_rfl) (q_asg rfl) ?_
      refine Dr.tail 24 (by kernel_rfl) ?_
      refine Ops.sat ?_ (fun _ hs => hR9 (.there .here) hs)
      refine Ops.q (q_asg rfl) ?_
      refine Ops.to rfl ?_
      refine Cd.seq ?_
      refine Cd.draw rfl (by kernel_rfl) (.cons .here (.cons .here (.cons (.there (.there .here)) .nil))) ?_
      intro F11 St12 hP13 hF14 hR15
      refine Dr.q (i := 0) hP13 rfl (by kernel_rfl) (q_ldB isA_141 rfl .here rfl) ?_
      refine Dr.q (i := 1) hP13 rfl (by kernel_rfl) (q_nck rfl) ?_
      refine Dr.q (i := 2) hP13 rfl (by kernel_rfl) (q_fa fo_182_3 rfl) ?_
      refine Dr.q (i := 3) hP13 rfl (by kernel_rfl) (q_ldB isA_178 rfl (.there .here) rfl) ?_
      refine Dr.q (i := 4) hP13 rfl (by kernel_rfl) (q_mv rfl) ?_
      refine Dr.q (i := 5) hP13 rfl (by kernel_rfl) (q_ldBN [.int .i64 ((tickP x2 s v).1.v), .int .i64 ((tickP x2 s v).1.rest)] isA_184 sz_184 rfl (.there (.there .here)) rfl) ?_
      refine Dr.tail 6 (by kernel_rfl) ?_
      refine Ops.sat ?_ (fun _ hs => hR15 .here hs)
      refine Ops.q (q_ix (k := kk) esz_178 rfl rfl (by omega)) ?_
      refine Ops.stO [.int .i64 ((tickP x2 s v).1.v), .int .i64 ((tickP x2 s v).1.rest)] (((midS T sts kk).set kk (⟨(tickP x2 s v).1.v, (tickP x2 s v).1.rest⟩ : Stt)).flatMap eStt) sz_184 rfl rfl rfl (one rfl) (.there (.there (.there (.there .here)))) (by rw [fm_length eStt_len]; simp only [List.length_cons, List.length_nil]; omega) (fm_set eStt_len (midS T sts kk) kk (⟨(tickP x2 s v).1.v, (tickP x2 s v).1.rest⟩ : Stt) (by omega)) ?_
      refine Ops.to rfl ?_
      refine Cd.seq ?_
      refine Cd.region ?_
      refine Ops.q (q_mv rfl) ?_
      refine Ops.to rfl ?_
      refine Cd.cond rfl (fun h16 => ?_) (fun h16 => ?_)
      · refine Cd.region ?_
        refine Ops.q (q_mv rfl) ?_
        refine Ops.q (q_mv rfl) ?_
        refine Ops.lit [.int .i64 (kk : Int)] el_26 zsb_3 rfl rfl ⟨by decide, by decide⟩ rfl ?_
        intro b17
        refine Ops.app (news := [.int .i64 (kk : Int)]) el_26 zsb_3 (by decide) rfl rfl (fun _ hs => hs.ownRo .here) (fun _ hs => (hs.pull .here).drop) (fun _ _ => (.there (.there (.there (.there (.there (.there (.there .here)))))))) rfl (one rfl) (by omega) (by omega) ?_
        intro a18 c19
        refine Ops.q (q_asg rfl) ?_
        refine Ops.to rfl ?_
        refine Cd.region ?_
        refine Ops.q (q_ar rfl rfl (a_inc (by omega))) ?_
        refine Ops.q (q_mv rfl) ?_
        refine Ops.rnd ((kk + 1, a18, c19)) rfl (by dsimp only; exact (by omega)) (by dsimp only; omega) ⟨rfl, rfl, (by rw [fireI_take ht, if_pos h16, List.length_append]; rfl), rfl, rfl, rfl, rfl, trivial⟩ (fun _ hs => by have h1 := ((((((((hs.pull (.there (.there (.there (.there (.there (.there (.there .here)))))))).pull (.there (.there (.there (.there (.there (.there (.there .here)))))))).pull (.there (.there .here))).pull (.there (.there (.there (.there (.there (.there (.there .here)))))))).pull (.there (.there (.there (.there (.there (.there .here))))))).pull (.there (.there (.there (.there (.there (.there (.there .here)))))))).pull (.there (.there (.there (.there (.there (.there .here))))))).pull (.there (.there (.there (.there (.there (.there (.there .here)))))))).drop; dsimp only; rw [fireI_take ht, if_pos h16, fm_app, List.length_append, ← midS_set ht (by omega)]; exact h1) 
      · refine Cd.skipTo rfl ?_
        refine Cd.region ?_
        refine Ops.q (q_ar rfl rfl (a_inc (by omega))) ?_
        refine Ops.q (q_mv rfl) ?_
        refine Ops.rnd ((kk + 1, oa, oc)) rfl (by dsimp only; exact (by omega)) (by dsimp only; omega) ⟨rfl, rfl, (by rw [fireI_take ht, if_neg (by simp [h16]), List.append_nil]; rfl), rfl, rfl, rfl, rfl, trivial⟩ (fun _ hs => by have h1 := ((((((((hs.pull (.there (.there (.there (.there (.there (.there (.there .here)))))))).pull (.there (.there (.there (.there (.there (.there (.there .here)))))))).pull (.there (.there .here))).pull (.there (.there (.there (.there (.there (.there (.there .here)))))))).pull (.there (.there (.there (.there (.there (.there .here))))))).pull (.there (.there (.there (.there (.there (.there (.there .here)))))))).pull (.there (.there (.there (.there (.there (.there .here))))))).pull (.there (.there (.there (.there (.there (.there (.there .here)))))))).drop; dsimp only; rw [fireI_take ht, if_neg (by simp [h16]), List.append_nil, ← midS_set ht (by omega)]; exact h1) 
    · refine Ops.alc [.int .i64 0, .int .i64 0] zc_184 ?_
      intro b20
      refine Dr.back (fun _ hs => hF8 (.there .here) hs) ?_
      refine Dr.e (i := 16) rfl (by kernel_rfl) ?_
      refine Ops.cp en_100 rfl (fun w hs => tick_c x2 s v w) ?_
      refine Dr.back (fun _ hs => hF8 (.there .here) hs) ?_
      refine Dr.q (i := 17) hP7 rfl (by kernel_rfl) (q_mv rfl) ?_
      refine Dr.q (i := 18) hP7 rfl (by kernel_rfl) (q_ext rfl rfl) ?_
      refine Dr.q (i := 19) hP7 rfl (by kernel_rfl) (q_ext rfl rfl) ?_
      refine Dr.q (i := 20) hP7 rfl (by kernel_rfl) (q_ext rfl rfl) ?_
      refine Dr.e (i := 22) rfl (by kernel_rfl) ?_
      refine Ops.stB [.int .i64 ((tickP x2 s v).1.v), .int .i64 ((tickP x2 s v).1.rest)] [.int .i64 ((tickP x2 s v).1.v), .int .i64 ((tickP x2 s v).1.rest)] sz_184 rfl rfl rfl (one rfl) .here rfl rfl ?_
      refine Dr.back (fun _ hs => hF8 (.there .here) hs) ?_
      refine Dr.q (i := 23) hP7 rfl (by kernel_rfl) (q_asg rfl) ?_
      refine Dr.tail 24 (by kernel_rfl) ?_
      refine Ops.sat ?_ (fun _ hs => hR9 (.there .here) hs)
      refine Ops.q (q_asg rfl) ?_
      refine Ops.to rfl ?_
      refine Cd.seq ?_
      refine Cd.draw rfl (by kernel_rfl) (.cons .here (.cons .here (.cons (.there (.there .here)) .nil))) ?_
      intro F21 St22 hP23 hF24 hR25
      refine Dr.q (i := 0) hP23 rfl (by kernel_rfl) (q_ldB isA_141 rfl .here rfl) ?_
      refine Dr.q (i := 1) hP23 rfl (by kernel_rfl) (q_nck rfl) ?_
      refine Dr.q (i := 2) hP23 rfl (by kernel_rfl) (q_fa fo_182_3 rfl) ?_
      refine Dr.q (i := 3) hP23 rfl (by kernel_rfl) (q_ldB isA_178 rfl (.there .here) rfl) ?_
      refine Dr.q (i := 4) hP23 rfl (by kernel_rfl) (q_mv rfl) ?_
      refine Dr.q (i := 5) hP23 rfl (by kernel_rfl) (q_ldBN [.int .i64 ((tickP x2 s v).1.v), .int .i64 ((tickP x2 s v).1.rest)] isA_184 sz_184 rfl (.there (.there .here)) rfl) ?_
      refine Dr.tail 6 (by kernel_rfl) ?_
      refine Ops.sat ?_ (fun _ hs => hR25 .here hs)
      refine Ops.q (q_ix (k := kk) esz_178 rfl rfl (by omega)) ?_
      refine Ops.stO [.int .i64 ((tickP x2 s v).1.v), .int .i64 ((tickP x2 s v).1.rest)] (((midS T sts kk).set kk (⟨(tickP x2 s v).1.v, (tickP x2 s v).1.rest⟩ : Stt)).flatMap eStt) sz_184 rfl rfl rfl (one rfl) (.there (.there (.there (.there .here)))) (by rw [fm_length eStt_len]; simp only [List.length_cons, List.length_nil]; omega) (fm_set eStt_len (midS T sts kk) kk (⟨(tickP x2 s v).1.v, (tickP x2 s v).1.rest⟩ : Stt) (by omega)) ?_
      refine Ops.to rfl ?_
      refine Cd.seq ?_
      refine Cd.region ?_
      refine Ops.q (q_mv rfl) ?_
      refine Ops.to rfl ?_
      refine Cd.cond rfl (fun h26 => ?_) (fun h26 => ?_)
      · refine Cd.region ?_
        refine Ops.q (q_mv rfl) ?_
        refine Ops.q (q_mv rfl) ?_
        refine Ops.lit [.int .i64 (kk : Int)] el_26 zsb_3 rfl rfl ⟨by decide, by decide⟩ rfl ?_
        intro b27
        refine Ops.app (news := [.int .i64 (kk : Int)]) el_26 zsb_3 (by decide) rfl rfl (fun _ hs => hs.ownRo .here) (fun _ hs => (hs.pull .here).drop) (fun _ _ => (.there (.there (.there (.there (.there (.there (.there .here)))))))) rfl (one rfl) (by omega) (by omega) ?_
        intro a28 c29
        refine Ops.q (q_asg rfl) ?_
        refine Ops.to rfl ?_
        refine Cd.region ?_
        refine Ops.q (q_ar rfl rfl (a_inc (by omega))) ?_
        refine Ops.q (q_mv rfl) ?_
        refine Ops.rnd ((kk + 1, a28, c29)) rfl (by dsimp only; exact (by omega)) (by dsimp only; omega) ⟨rfl, rfl, (by rw [fireI_take ht, if_pos h26, List.length_append]; rfl), rfl, rfl, rfl, rfl, trivial⟩ (fun _ hs => by have h1 := ((((((((hs.pull (.there (.there (.there (.there (.there (.there (.there .here)))))))).pull (.there (.there (.there (.there (.there (.there (.there .here)))))))).pull (.there (.there .here))).pull (.there (.there (.there (.there (.there (.there (.there .here)))))))).pull (.there (.there (.there (.there (.there (.there .here))))))).pull (.there (.there (.there (.there (.there (.there (.there .here)))))))).pull (.there (.there (.there (.there (.there (.there .here))))))).pull (.there (.there (.there (.there (.there (.there (.there .here)))))))).drop; dsimp only; rw [fireI_take ht, if_pos h26, fm_app, List.length_append, ← midS_set ht (by omega)]; exact h1) 
      · refine Cd.skipTo rfl ?_
        refine Cd.region ?_
        refine Ops.q (q_ar rfl rfl (a_inc (by omega))) ?_
        refine Ops.q (q_mv rfl) ?_
        refine Ops.rnd ((kk + 1, oa, oc)) rfl (by dsimp only; exact (by omega)) (by dsimp only; omega) ⟨rfl, rfl, (by rw [fireI_take ht, if_neg (by simp [h26]), List.append_nil]; rfl), rfl, rfl, rfl, rfl, trivial⟩ (fun _ hs => by have h1 := ((((((((hs.pull (.there (.there (.there (.there (.there (.there (.there .here)))))))).pull (.there (.there (.there (.there (.there (.there (.there .here)))))))).pull (.there (.there .here))).pull (.there (.there (.there (.there (.there (.there (.there .here)))))))).pull (.there (.there (.there (.there (.there (.there .here))))))).pull (.there (.there (.there (.there (.there (.there (.there .here)))))))).pull (.there (.there (.there (.there (.there (.there .here))))))).pull (.there (.there (.there (.there (.there (.there (.there .here)))))))).drop; dsimp only; rw [fireI_take ht, if_neg (by simp [h26]), List.append_nil, ← midS_set ht (by omega)]; exact h1) 
  · refine Ops.q (q_cmp rfl rfl (c_nlt (by omega))) ?_
    refine Ops.to rfl ?_
    refine Cd.seq ?_
    refine Cd.cond_f rfl ?_
    refine Cd.exitTo rfl ?_
    refine Cd.seq ?_
    refine Cd.region ?_
    refine Ops.q (q_mv rfl) ?_
    have hkn : kk = ns.length := by omega
    refine Ops.clr2 el_26 zsb_3 rfl (one rfl) (rep_int _) (.there (.there (.there (.there (.there (.there (.there (Upd.right (upd_get (f := rrow ns.length) (e' := (x0.1, List.replicate ns.length 0)) hx0) F)))))))) ?_
    refine Ops.to rfl ?_
    refine Cd.seq ?_
    refine Cd.seq ?_
    have hTk : T.take kk = T := List.take_of_length_le (by omega)
    have hmk : midS T sts kk = T.map (·.1) := by unfold midS; rw [hTk, List.drop_of_length_le (by omega), List.append_nil]
    have hcl : clrQ now ns.length q = q.set (now % 16) (x0.1, List.replicate ns.length 0) := modify_set hx0
    rw [hTk]
    refine Cd.sat (A' := blk S 182 ([.slice na ns.length nc, .int .i64 ip, .slice sa m sc, .map (some M), .int .i64 (now : Int), .slice (some ⟨B, 0, none⟩) ns.length ns.length] ++ (clrQ now ns.length q).map (rcell ns.length)) :: row (some ⟨B, 0, none⟩) ns.length 184 2 ns.length ((T.map (·.1)).flatMap eStt) :: row na nc 116 8 ns.length (ns.flatMap ePrm) :: rd (wφ M E) :: blk b1 141 [.pointer (some ⟨S, 0, none⟩)] :: row ia ic 3 1 ids.length (ids.flatMap eInt) :: row oa oc 3 1 ((fireI 0 T).length) ((fireI 0 T).flatMap eInt) :: (F ++ (clrQ now ns.length q).map (rrow ns.length))) ?_ (fun _ hs => by have h1 := (((((((hs.pull (.there (.there (.there (.there (.there (.there .here))))))).pull (.there (.there (.there (.there (.there (.there .here))))))).pull (.there (.there (.there (.there (.there (.there .here))))))).pull (.there (.there (.there (.there (.there (.there .here))))))).pull (.there (.there (.there (.there (.there (.there .here))))))).pull (.there (.there (.there (.there (.there (.there .here))))))).pull (.there (.there (.there (.there (.there (.there .here))))))); rw [hmk, ← hcl] at h1; exact sim_cells (fun _ => rfl) h1)
    refine Cd.region ?_
    refine Ops.q (q_ldB isA_141 rfl (.there (.there (.there (.there .here)))) rfl) ?_
    refine Ops.q (q_nck rfl) ?_
    refine Ops.q (q_fa fo_182_1 rfl) ?_
    refine Ops.q (q_ldB isA_176 rfl .here rfl) ?_
    refine Ops.q (q_mv rfl) ?_
    refine Ops.q (q_mv rfl) ?_
    refine Ops.cl (α := Nat × Nat × Nat) (v := fun x => .func (.func 117) #[] #[.pointer (some ⟨x.1, 0, none⟩), .pointer (some ⟨x.2.1, 0, none⟩), .pointer (some ⟨x.2.2, 0, none⟩)]) (B := fun x => [blk x.1 176 [.map (some M)], blk x.2.1 26 [.slice oa ((fireI 0 T).length) oc], blk x.2.2 26 [.slice ia ids.length ic]]) en_101 rfl (fun w hs => from101_c M _ _ _ _ _ _ w) ?_
    rintro ⟨mb, fb, ib⟩
    refine Ops.to rfl ?_
    refine Cd.block ?_
    refine Cd.range2 (k := 117) (caps := [.pointer (some ⟨mb, 0, none⟩), .pointer (some ⟨fb, 0, none⟩), .pointer (some ⟨ib, 0, none⟩)]) (enc := argS) (xs := (metS ss (fireI 0 T) ids)) (X := [blk mb 176 [.map (some M)], blk fb 26 [.slice oa ((fireI 0 T).length) oc], blk ib 26 [.slice ia ids.length ic], row oa oc 3 1 ((fireI 0 T).length) ((fireI 0 T).flatMap eInt), row ia ic 3 1 ids.length (ids.flatMap eInt), rd (wφ M E)]) (β := Nat) (fun pre : List Syn => blk S 182 ([.slice na ns.length nc, .int .i64 ip, .slice sa m sc, .map (some M), .int .i64 (now : Int), .slice (some ⟨B, 0, none⟩) ns.length ns.length] ++ (pre.foldl (addQ now) (clrQ now ns.length q)).map (rcell ns.length)) :: row (some ⟨B, 0, none⟩) ns.length 184 2 ns.length ((T.map (·.1)).flatMap eStt) :: row na nc 116 8 ns.length (ns.flatMap ePrm) :: blk b1 141 [.pointer (some ⟨S, 0, none⟩)] :: (F ++ (pre.foldl (addQ now) (clrQ now ns.length q)).map (rrow ns.length))) (fun x (b : Nat) => [(12, .pointer (some ⟨b, 0, none⟩)), (2, .pointer (some ⟨b1, 0, none⟩))]) (fun pre x (b : Nat) => blk b 126 (eSyn x) :: blk S 182 ([.slice na ns.length nc, .int .i64 ip, .slice sa m sc, .map (some M), .int .i64 (now : Int), .slice (some ⟨B, 0, none⟩) ns.length ns.length] ++ (pre.foldl (addQ now) (clrQ now ns.length q)).map (rcell ns.length)) :: row (some ⟨B, 0, none⟩) ns.length 184 2 ns.length ((T.map (·.1)).flatMap eStt) :: row na nc 116 8 ns.length (ns.flatMap ePrm) :: blk b1 141 [.pointer (some ⟨S, 0, none⟩)] :: (F ++ (pre.foldl (addQ now) (clrQ now ns.length q)).map (rrow ns.length)))
      (iter117 mb fb ib M E ss hW hlen _ _ (fireI 0 T) ia ic ids hids (by omega) (by omega) w0) en_117 rfl (fun _ hs => toEnd6 (((((((((((hs.pull (.there (.there (.there (.there (.there (.there .here))))))).pull (.there (.there (.there (.there (.there (.there (.there (.there .here))))))))).pull (.there (.there (.there (.there (.there (.there (.there (.there (.there .here)))))))))).pull (.there (.there (.there (.there (.there .here)))))).pull (.there (.there (.there (.there (.there .here)))))).pull (.there (.there (.there (.there (.there .here)))))).pull (.there (.there (.there (.there (.there (.there (.there (.there (.there .here)))))))))).pull (.there (.there (.there (.there (.there (.there (.there (.there (.there .here)))))))))).pull (.there (.there (.there (.there (.there (.there (.there (.there (.there .here)))))))))).pull (.there (.there (.there (.there (.there (.there (.there (.there (.there .here)))))))))))) rfl (fun _ => rfl) ?_ ?_ rfl ?_
    · intro l Y pre x hpost
      refine Cd.region ?_
      refine Ops.alc [.int .i64 0, .int .i64 0, .int .i64 0, .int .i64 0] zc_126 ?_
      intro b30
      refine Ops.stB [.int .i64 x.src, .int .i64 x.dst, .int .i64 x.wt, .int .i64 x.dl] [.int .i64 x.src, .int .i64 x.dst, .int .i64 x.wt, .int .i64 x.dl] sz_126 rfl rfl rfl (one rfl) .here rfl rfl ?_
      exact Ops.mid b30 ⟨rfl, rfl, trivial⟩ (fun _ hs => hs)
    · intro l Y pre x b hpost
      obtain ⟨post, hpost⟩ := hpost
      have hxm : x ∈ ss := metS_mem (fired := fireI 0 T) (ids := ids) (by rw [← hpost]; simp)
      obtain ⟨hdst, hdl⟩ := hss x hxm
      have hqp : ringOK ns.length (pre.foldl (addQ now) (clrQ now ns.length q)) := (ringOK.clr hq).addAll pre
      obtain ⟨j1, hj1⟩ : ∃ j : Nat, ((now : Int) + x.dl) % 16 = (j : Int) := ⟨(((now : Int) + x.dl) % 16).toNat, by omega⟩
      have hj2 : j1 < 16 := by omega
      obtain ⟨dn, hdn⟩ : ∃ j : Nat, x.dst = (j : Int) := ⟨x.dst.toNat, by unfold wi at hdst; omega⟩
      have hdn2 : dn < ns.length := by unfold wi at hdst; omega
      obtain ⟨x1, hx1⟩ : ∃ y, (pre.foldl (addQ now) (clrQ now ns.length q))[j1]? = some y := ⟨_, List.getElem?_eq_getElem (by have := hqp.1; omega)⟩
      have hx1l : x1.2.length = ns.length := hqp.2 x1 (List.mem_iff_getElem?.2 ⟨j1, hx1⟩)
      obtain ⟨v, hv⟩ : ∃ v, x1.2[dn]? = some v := ⟨_, List.getElem?_eq_getElem (by omega)⟩
      have hadd := addQ_set hj1 hdn hx1 hv
      refine Cd.pull (.there (.there (.there (.there (.there (Pull.left (Pull.right (pull_get (f := rrow ns.length) hx1) F) Y)))))) ?_
      refine Cd.block ?_
      refine Cd.draw rfl (by kernel_rfl) (.cons .here (.cons .here (.cons (.there (.there (.there .here))) .nil))) ?_
      intro F31 St32 hP33 hF34 hR35
      refine Dr.q (i := 0) hP33 rfl (by kernel_rfl) (q_ldB isA_141 rfl (.there (.there .here)) rfl) ?_
      refine Dr.q (i := 1) hP33 rfl (by kernel_rfl) (q_fa fo_126_3 rfl) ?_
      refine Dr.q (i := 2) hP33 rfl (by kernel_rfl) (q_ldB isA_3 rfl (.there .here) rfl) ?_
      refine Dr.q (i := 4) hP33 rfl (by kernel_rfl) (q_fa fo_126_1 rfl) ?_
      refine Dr.q (i := 5) hP33 rfl (by kernel_rfl) (q_ldB isA_3 rfl (.there .here) rfl) ?_
      refine Dr.q (i := 8) hP33 rfl (by kernel_rfl) (q_fa fo_126_2 rfl) ?_
      refine Dr.q (i := 9) hP33 rfl (by kernel_rfl) (q_ldB isA_3 rfl (.there .here) rfl) ?_
      refine Dr.e (i := 3) rfl (by kernel_rfl) ?_
      refine Ops.cm (α := Unit) (v := fun _ => rcell ns.length x1) (A' := fun _ => blk S 182 ([.slice na ns.length nc, .int .i64 ip, .slice sa m sc, .map (some M), .int .i64 (now : Int), .slice (some ⟨B, 0, none⟩) ns.length ns.length] ++ (pre.foldl (addQ now) (clrQ now ns.length q)).map (rcell ns.length)) :: F31 :: row (some ⟨B, 0, none⟩) ns.length 184 2 ns.length ((T.map (·.1)).flatMap eStt) :: row na nc 116 8 ns.length (ns.flatMap ePrm) :: ((F ++ ((pre.foldl (addQ now) (clrQ now ns.length q)).eraseIdx j1).map (rrow ns.length)) ++ Y)) en_99 rfl (fun w hs => (row_c S _ _ _ _ ns ip m M now B (pre.foldl (addQ now) (clrQ now ns.length q)) (F31 :: row (some ⟨B, 0, none⟩) ns.length 184 2 ns.length ((T.map (·.1)).flatMap eStt) :: row na nc 116 8 ns.length (ns.flatMap ePrm) :: ((F ++ ((pre.foldl (addQ now) (clrQ now ns.length q)).eraseIdx j1).map (rrow ns.length)) ++ Y)) x.dl j1 x1 w0 w hj1 hj2 hx1 (by unfold wi at hdl; omega) (by omega) (hs.pull (.there .here))).mono fun e w' h => ⟨(), h⟩) ?_
      intro _
      refine Dr.back (fun _ hs => hF34 (.there .here) hs) ?_
      refine Dr.q (i := 6) hP33 rfl (by kernel_rfl) (q_ix (k := dn) esz_26 rfl (show some (Value.int .i64 x.dst) = some (.int .i64 (dn : Int)) from by rw [hdn]) hdn2) ?_
      refine Dr.q (i := 7) hP33 rfl (by kernel_rfl) (q_ldO isA_3 rfl .here (fm_at0 eInt_len hv rfl)) ?_
      refine Dr.q (i := 10) hP33 rfl (by kernel_rfl) (q_ar rfl rfl (rfl)) ?_
      refine Dr.tail 11 (by kernel_rfl) ?_
      refine Ops.sat ?_ (fun _ hs => hR35 (.there .here) hs)
      refine Ops.q (q_ix (k := dn) esz_26 rfl (show some (Value.int .i64 x.dst) = some (.int .i64 (dn : Int)) from by rw [hdn]) hdn2) ?_
      refine Ops.stO [.int .i64 (IntKind.i64.wrap (v + x.wt))] ((x1.2.set dn (IntKind.i64.wrap (v + x.wt))).flatMap eInt) sz_3 rfl rfl rfl (one rfl) .here (by rw [fm_length eInt_len]; simp only [List.length_cons, List.length_nil]; omega) (fm_set eInt_len x1.2 dn (IntKind.i64.wrap (v + x.wt)) (by omega)) ?_
      refine Ops.endQ (by with_reducible repeat (first | exact nq_end | apply nq_nq | apply xq_then | apply xq_block | apply nq_block)) (fun _ hs => ?_)
      have h1 := ((((((hs.pull (.there (.there .here))).pull (.there (.there (.there (.there (.there .here)))))).pull (.there (.there (.there (.there (.there .here)))))).pull (.there (.there (.there (.there (.there .here)))))).pull (.there (.there (.there (.there .here))))).pull (.there (.there (.there (.there (.there .here)))))).drop
      have h2 := Sat.push (a := rrow ns.length (x1.1, x1.2.set dn (IntKind.i64.wrap (v + x.wt)))) h1 (.there (.there (.there (.there (Pull.left (Pull.right (pull_set (f := rrow ns.length) hx1) F) Y)))))
      rw [← hadd] at h2
      rw [foldl_snoc]
      exact sim_cells (fun _ => rfl) h2
    · intro d
      refine Cd.seq ?_
      refine Cd.region ?_
      refine Ops.q (q_ldB isA_141 rfl (.there (.there (.there (.there .here)))) rfl) ?_
      refine Ops.q (q_nck rfl) ?_
      refine Ops.q (q_fa fo_182_2 rfl) ?_
      refine Ops.q (q_ldB isA_3 rfl (.there .here) rfl) ?_
      refine Ops.q (q_ar rfl rfl (a_inc (by omega))) ?_
      refine Ops.q (q_nck rfl) ?_
      refine Ops.q (q_fa fo_182_2 rfl) ?_
      refine Ops.stB [.int .i64 ((now + 1 : Nat) : Int)] ([.slice na ns.length nc, .int .i64 ip, .slice sa m sc, .map (some M), .int .i64 ((now + 1 : Nat) : Int), .slice (some ⟨B, 0, none⟩) ns.length ns.length] ++ ((metS ss (fireI 0 T) ids).foldl (addQ now) (clrQ now ns.length q)).map (rcell ns.length)) sz_3 rfl rfl rfl (one rfl) (.there .here) (ble_ok (by simp)) rfl ?_
      refine Ops.to rfl ?_
      refine Cd.seq ?_
      refine Cd.region ?_
      refine Ops.q (q_mv rfl) ?_
      refine Ops.q (q_asg rfl) ?_
      refine Ops.to rfl ?_
      refine Cd.rtM (fn := Try.f77) [.slice oa ((fireI 0 T).length) oc] (by with_reducible repeat (first | exact rqM_here | apply rq_then | apply rq_block)) rfl ⟨rfl, trivial⟩ .here ?_
      intro w' hs'
      have h1 := ((((hs'.pull (.there (.there .here))).pull (.there (.there .here))).pull (.there (.there .here))).pull (.there (.there (.there .here)))).drop
      exact ⟨(oa, oc), rfl, fromEnd6 h1⟩
end Go.Proofs.Ytilcdghliigngaa
namespace Go.Proofs.Ytilcdghliigngaa
open Go.RowKit Go.Proofs.YtilcdghliigngaaGl Go.Proofs.YtilcdghliigngaaPm
set_option linter.unusedVariables false
set_option linter.unusedSimpArgs false
def addR (now : Nat) (q : List (List Int)) (s : Syn) : List (List Int) := q.modify (((now : Int) + s.dl) % 16).toNat fun x => x.modify s.dst.toNat fun v => IntKind.i64.wrap (v + s.wt)
def stepR (ns : List Prm) (ss : List Syn) (now : Nat) (sts : List Stt) (ring : List (List Int)) (ids : List Int) : List Stt × List (List Int) × List Int :=
  let T := tickAll ns sts ((ring[now % 16]?).getD [])
  (T.map (·.1), (metS ss (fireI 0 T) ids).foldl (addR now) (ring.modify (now % 16) fun _ => List.replicate ns.length 0), fireI 0 T)
def runP (ns : List Prm) (ss : List Syn) : Nat → Nat → List Stt → List (List Int) → List Evt → List Evt → Option (List Evt)
  | 0, _, _, _, _, out => some out
  | f + 1, now, sts, ring, evs, out =>
    let r := stepR ns ss now sts ring ((evs.takeWhile (fun e => e.tick == (now : Int))).map (·.id))
    if 65536 < (out ++ r.2.2.map (fun i => (⟨(now : Int), i⟩ : Evt))).length then none
    else runP ns ss f (now + 1) r.1 r.2.1 (evs.dropWhile (fun e => e.tick == (now : Int))) (out ++ r.2.2.map (fun i => (⟨(now : Int), i⟩ : Evt)))
def runN (N : NetP) (evs : List Evt) (t : Nat) : Option (List Evt) := runP N.ns N.ss t 0 (List.replicate N.ns.length ⟨0, 0⟩) (List.replicate 16 (List.replicate N.ns.length 0)) evs []
abbrev idsAt (es : List Evt) (k : Nat) : List Int := (es.takeWhile (fun e => e.tick == (k : Int))).map (·.id)
abbrev restAt (es : List Evt) (k : Nat) : List Evt := es.dropWhile (fun e => e.tick == (k : Int))
theorem out_app {F : List Int} {j : Nat} {x : Int} (hx : F[j]? = some x) (out : List Evt) (f : Int → Evt) : out ++ (F.take (j + 1)).map f = (out ++ (F.take j).map f) ++ [f x] := by
  rw [List.take_add_one, hx, List.map_append, ← List.append_assoc]; rfl
theorem out_len {F : List Int} {j : Nat} {x : Int} (hx : F[j]? = some x) (out : List Evt) (f : Int → Evt) : (out ++ (F.take (j + 1)).map f).length = (out ++ (F.take j).map f).length + 1 := by
  rw [out_app hx, List.length_append]; rfl
theorem addR_map (now : Nat) (q : List (Nat × List Int)) (s : Syn) : (addQ now q s).map (·.2) = addR now (q.map (·.2)) s := by
  unfold addQ addR
  apply List.ext_getElem?
  intro j
  simp only [List.getElem?_map, List.getElem?_modify]
  by_cases hj : (((now : Int) + s.dl) % 16).toNat = j
  · subst hj; cases q[(((now : Int) + s.dl) % 16).toNat]? <;> simp
  · cases q[j]? <;> simp [hj]
theorem addR_all (now : Nat) : ∀ (l : List Syn) (q : List (Nat × List Int)), (l.foldl (addQ now) q).map (·.2) = l.foldl (addR now) (q.map (·.2))
  | [], _ => rfl
  | s :: l, q => by rw [List.foldl_cons, addR_all now l, addR_map, List.foldl_cons]
theorem clrR_map (now n : Nat) (q : List (Nat × List Int)) : (clrQ now n q).map (·.2) = (q.map (·.2)).modify (now % 16) fun _ => List.replicate n 0 := by
  unfold clrQ
  apply List.ext_getElem?
  intro j
  simp only [List.getElem?_map, List.getElem?_modify]
  by_cases hj : now % 16 = j
  · subst hj; cases q[now % 16]? <;> simp
  · cases q[j]? <;> simp [hj]
theorem stepR_eq {ns : List Prm} {ss : List Syn} {now : Nat} {sts : List Stt} {q : List (Nat × List Int)} {ids : List Int} {x0 : Nat × List Int} {T : List (Stt × Bool)} (hx0 : q[now % 16]? = some x0) (hT : T = tickAll ns sts x0.2) :
    stepR ns ss now sts (q.map (·.2)) ids = (T.map (·.1), ((metS ss (fireI 0 T) ids).foldl (addQ now) (clrQ now ns.length q)).map (·.2), fireI 0 T) := by
  unfold stepR
  rw [List.getElem?_map, hx0, addR_all, clrR_map]
  simp only [Option.map_some, Option.getD_some, ← hT]
theorem dropWhile_mem {α : Type} {p : α → Bool} : ∀ {xs : List α} {x : α}, x ∈ xs.dropWhile p → x ∈ xs
  | [], _, h => h
  | y :: ys, x, h => by
    rw [List.dropWhile_cons] at h
    split at h
    · exact .tail _ (dropWhile_mem h)
    · exact h
theorem takeWhile_mem {α : Type} {p : α → Bool} : ∀ {xs : List α} {x : α}, x ∈ xs.takeWhile p → x ∈ xs
  | [], _, h => h
  | y :: ys, x, h => by
    rw [List.takeWhile_cons] at h
    split at h
    · rcases List.mem_cons.1 h with rfl | h
      · exact .head _
      · exact .tail _ (takeWhile_mem h)
    · cases h
theorem takeWhile_le {α : Type} (p : α → Bool) : ∀ (xs : List α), (xs.takeWhile p).length ≤ xs.length
  | [] => by simp
  | y :: ys => by
    rw [List.takeWhile_cons]
    split
    · have := takeWhile_le p ys; simp; omega
    · simp
theorem dropWhile_le {α : Type} (p : α → Bool) : ∀ (xs : List α), (xs.dropWhile p).length ≤ xs.length
  | [] => by simp
  | y :: ys => by
    rw [List.dropWhile_cons]
    split
    · have := dropWhile_le p ys; simp; omega
    · simp
theorem ring0 {q : List (Nat × List Int)} {n : Nat} (h : q.length = 16) (h2 : ∀ x ∈ q, x.2 = List.replicate n 0) : q.map (·.2) = List.replicate 16 (List.replicate n 0) := by
  rw [← h]
  clear h
  induction q with
  | nil => rfl
  | cons x q ih => rw [List.map_cons, h2 x (.head _), ih (fun y hy => h2 y (.tail _ hy))]; rfl
theorem dropTail {w0 w : World} {B A : List Atom} (h : Sat w0 w (B ++ A)) : Sat w0 w B := by
  obtain ⟨hB, T, hs, ht⟩ := h
  obtain ⟨S, U, h1, _, _, h4⟩ := Sats.split hs
  exact ⟨hB, S, h1, fun k hk => ht k ((h4 k).2 (.inl hk))⟩
theorem run_c (na : Option Addr) (nc : Nat) (sa : Option Addr) (sc : Nat) (ns : List Prm) (ip : Int) (ss : List Syn) (ea : Option Addr) (ec : Nat) (evs : List Evt) (t : Int) (w : World) (hN : RoL w na ePrm ns) (hS : RoL w sa eSyn ss) (hE : RoL w ea eEvt evs) (hec : evs.length ≤ ec) :
    Calls Try.prog 36 [.agg [.slice na ns.length nc, .int .i64 ip, .slice sa ss.length sc].toArray, .slice ea evs.length ec, .int .i64 t].toArray w fun e w' =>
      if preparedE ⟨ns, ip, ss⟩ evs t 10000 ≠ 0 then e = .returned (.tuple #[.slice none 0 0, .int .i64 (preparedE ⟨ns, ip, ss⟩ evs t 10000)]) ∧ Sat w w' []
      else match runN ⟨ns, ip, ss⟩ evs t.toNat with
        | none => e = .returned (.tuple #[.slice none 0 0, .int .i64 8]) ∧ Sat w w' []
        | some out => ∃ p : Option Addr × Nat, e = .returned (.tuple #[.slice p.1 out.length p.2, .int .i64 0]) ∧ Sat w w' [row p.1 p.2 88 2 out.length (out.flatMap eEvt)] := by
  refine fstart Try.func36 rfl rfl (Sat.nil w) ?_
  refine Cd.seq ?_
  refine Cd.region ?_
  refine Ops.box [.slice na ns.length nc, .int .i64 ip, .slice sa ss.length sc] rfl rfl ?_
  intro b1
  refine Ops.q (q_asg rfl) ?_
  refine Ops.q (q_asg rfl) ?_
  refine Ops.to rfl ?_
  refine Cd.seq ?_
  refine Cd.seq ?_
  refine Cd.region ?_
  refine Ops.q (q_ldBN [.slice na ns.length nc, .int .i64 ip, .slice sa ss.length sc] isA_32 sz_32 rfl .here rfl) ?_
  refine Ops.q (q_mv rfl) ?_
  refine Ops.q (q_mv rfl) ?_
  refine Ops.cp en_75 rfl (fun w hs => prepared_c _ _ _ _ ns ip ss _ _ evs t 10000 w (by omega) (hN.later hs.below) (hS.later hs.below) (hE.later hs.below)) ?_
  refine Ops.q (q_asg rfl) ?_
  refine Ops.to rfl ?_
  refine Cd.seq ?_
  refine Cd.region ?_
  refine Ops.q (q_mv rfl) ?_
  by_cases h2 : preparedE ⟨ns, ip, ss⟩ evs t 10000 = 0
  · refine Ops.q (q_cmp rfl rfl (c_nne h2)) ?_
    have hp : preparedE ⟨ns, ip, ss⟩ evs t 10000 = 0 := h2
    have hpo := prepared_ok hp
    obtain ⟨hn0, hn1, hm1, hip0, hip1, hnc, hsc⟩ := netCheck_ok hpo.1
    have hss : ∀ s ∈ ss, wi s.dst 0 ((ns.length : Int) - 1) ∧ wi s.dl 1 16 := fun s hs => ⟨(synE_ok (hsc s hs)).2.1, (synE_ok (hsc s hs)).2.2.2⟩
    obtain ⟨tn, rfl⟩ : ∃ j : Nat, t = (j : Int) := ⟨t.toNat, by have := hpo.2.1; unfold wi at this; omega⟩
    have htn : tn ≤ 10000 := by have := hpo.2.1; unfold wi at this; omega
    obtain ⟨nx, hnx⟩ : ∃ x, ns[0]? = some x := ⟨_, List.getElem?_eq_getElem hn0⟩
    obtain ⟨nb, no, rfl⟩ := RoL.pos hN ePrm_len hnx
    refine Ops.to rfl ?_
    refine Cd.cond_f rfl ?_
    refine Cd.skipTo rfl ?_
    refine Cd.seq ?_
    refine Cd.region ?_
    refine Ops.q (q_ldBN [.slice (some ⟨nb, no, none⟩) ns.length nc, .int .i64 ip, .slice sa ss.length sc] isA_32 sz_32 rfl .here rfl) ?_
    refine Ops.cl (α := {x : Nat × Option Addr × Nat × Nat × List WEnt × Nat × List (Nat × List Int) // WI x.2.2.2.2.1 ss ∧ x.2.2.2.2.2.2.length = 16 ∧ ∀ y ∈ x.2.2.2.2.2.2, y.2 = List.replicate ns.length 0}) (v := fun x => .pointer (some ⟨x.1.1, 0, none⟩)) (B := fun x => simA x.1.1 x.1.2.1 x.1.2.2.1 sa sc ns ip ss.length x.1.2.2.2.1 x.1.2.2.2.2.1 0 x.1.2.2.2.2.2.1 (List.replicate ns.length ⟨0, 0⟩) x.1.2.2.2.2.2.2 []) en_76 rfl (fun w hs => (start_c _ _ _ _ _ ns ip ss w (hN.later hs.below) (hS.later hs.below) (by omega) (by omega)).mono fun e w' h => by obtain ⟨S, na, nc', M, E, B, q, h1, h2, h3, h4, h5⟩ := h; exact ⟨⟨(S, na, nc', M, E, B, q), h2, h3, h4⟩, h1, h5⟩) ?_
    rintro ⟨⟨S, ma, mc, M, E, B, q0⟩, hW, hq0, hz0⟩
    dsimp only at hW hq0 hz0
    refine Ops.sat (A' := simA S ma mc sa sc ns ip ss.length M E 0 B (List.replicate ns.length ⟨0, 0⟩) q0 []) ?_ (fun _ hs => dropTail (B := simA S ma mc sa sc ns ip ss.length M E 0 B (List.replicate ns.length ⟨0, 0⟩) q0 []) hs)
    refine Ops.q (q_mv rfl) ?_
    refine Ops.q (q_bld [.slice ea evs.length ec] pls_145 zc_145 rfl rfl) ?_
    refine Ops.box [.slice ea evs.length ec] rfl rfl ?_
    intro b3
    refine Ops.q (q_asg rfl) ?_
    refine Ops.q (q_asg rfl) ?_
    refine Ops.to rfl ?_
    refine Cd.seq ?_
    refine Cd.region ?_
    refine Ops.q (q_asg rfl) ?_
    refine Ops.to rfl ?_
    refine Cd.seq ?_
    refine Cd.seq ?_
    refine Cd.region ?_
    refine Ops.q (q_mv rfl) ?_
    refine Ops.q (q_mv rfl) ?_
    refine Ops.to rfl ?_
    refine Cd.block ?_
    refine Cd.lp (σ := Nat × List Stt × List (Nat × List Int) × List Evt × List Evt × Option Addr × Nat × Option Addr × Nat) (fun s => s.1 ≤ tn ∧ s.2.1.length = ns.length ∧ ringOK ns.length s.2.2.1 ∧ RoL w s.2.2.2.2.2.1 eEvt s.2.2.2.1 ∧ s.2.2.2.1.length ≤ s.2.2.2.2.2.2.1 ∧ s.2.2.2.1.length ≤ 65536 ∧ (∀ e ∈ s.2.2.2.1, wi e.id 0 100000) ∧ s.2.2.2.2.1.length ≤ 65536 ∧ runP ns ss (tn - s.1) s.1 s.2.1 (s.2.2.1.map (·.2)) s.2.2.2.1 s.2.2.2.2.1 = runN ⟨ns, ip, ss⟩ evs tn) (fun s => [(9, .pointer (some ⟨S, 0, none⟩)), (10, .pointer (some ⟨b3, 0, none⟩)), (27, .int .i64 (tn : Int)), (11, .slice s.2.2.2.2.2.2.2.1 s.2.2.2.2.1.length s.2.2.2.2.2.2.2.2), (28, .int .i64 (s.1 : Int))]) (fun s => blk S 182 ([.slice ma ns.length mc, .int .i64 ip, .slice sa ss.length sc, .map (some M), .int .i64 (s.1 : Int), .slice (some ⟨B, 0, none⟩) ns.length ns.length] ++ s.2.2.1.map (rcell ns.length)) :: row (some ⟨B, 0, none⟩) ns.length 184 2 ns.length (s.2.1.flatMap eStt) :: row ma mc 116 8 ns.length (ns.flatMap ePrm) :: rd (wφ M E) :: blk b3 145 [.slice s.2.2.2.2.2.1 s.2.2.2.1.length s.2.2.2.2.2.2.1] :: row s.2.2.2.2.2.2.2.1 s.2.2.2.2.2.2.2.2 88 2 s.2.2.2.2.1.length (s.2.2.2.2.1.flatMap eEvt) :: (s.2.2.1.map (rrow ns.length))) (fun s => tn - s.1) (0, List.replicate ns.length ⟨0, 0⟩, q0, evs, [], ea, ec, none, 0) ⟨Nat.zero_le _, by simp, ⟨hq0, fun x hx => by rw [hz0 x hx]; simp⟩, hE, hec, hpo.2.2.1, fun e he => by have := (hpo.2.2.2 e he).2; unfold wi at this ⊢; omega, by simp, by unfold runN; rw [ring0 hq0 hz0]; rfl⟩ ⟨rfl, rfl, rfl, rfl, rfl, trivial⟩ (fun _ hs => by have h1 := (((((hs.pull .here).pull (.there (.there (.there (.there .here))))).pull (.there (.there (.there (.there .here))))).pull (.there (.there (.there (.there .here))))).pull (.there (.there (.there (.there .here))))); have h2 := h1.nilRow 88 2; exact Sat.push h2 (.there (.there (.there (.there (.there .here)))))) ?_
    rintro ⟨kk, sts, q, es, out, ta, tc, oa, oc⟩ hI
    dsimp only at hI
    change Cd _ _ _ _ _ _ _ [(9, .pointer (some ⟨S, 0, none⟩)), (10, .pointer (some ⟨b3, 0, none⟩)), (27, .int .i64 (tn : Int)), (11, .slice oa out.length oc), (28, .int .i64 (kk : Int))] (blk S 182 ([.slice ma ns.length mc, .int .i64 ip, .slice sa ss.length sc, .map (some M), .int .i64 (kk : Int), .slice (some ⟨B, 0, none⟩) ns.length ns.length] ++ q.map (rcell ns.length)) :: row (some ⟨B, 0, none⟩) ns.length 184 2 ns.length (sts.flatMap eStt) :: row ma mc 116 8 ns.length (ns.flatMap ePrm) :: rd (wφ M E) :: blk b3 145 [.slice ta es.length tc] :: row oa oc 88 2 out.length (out.flatMap eEvt) :: (q.map (rrow ns.length)))
    refine Cd.seq ?_
    refine Cd.region ?_
    by_cases hk0 : (kk : Int) < (tn : Int)
    · refine Ops.q (q_cmp rfl rfl (c_lt hk0)) ?_
      obtain ⟨hk1, hstl, hqo, hes, hec1, hel, hei, hol, hrun⟩ := hI
      obtain ⟨x0, hx0⟩ : ∃ x, q[kk % 16]? = some x := ⟨_, List.getElem?_eq_getElem (by have := hqo.1; omega)⟩
      obtain ⟨T, hT⟩ : ∃ T, T = tickAll ns sts x0.2 := ⟨_, rfl⟩
      have hx0l : x0.2.length = ns.length := hqo.2 x0 (List.mem_iff_getElem?.2 ⟨_, hx0⟩)
      have hTl : T.length = ns.length := by rw [hT]; exact tickAll_length (by omega) hx0l
      have hfl := fireI_len T 0
      have hids : ∀ i ∈ (idsAt es kk), wi i 0 100000 := by intro i hi; obtain ⟨e, he, rfl⟩ := List.mem_map.1 hi; exact hei e (takeWhile_mem he)
      have hil : (idsAt es kk).length ≤ 65536 := by rw [List.length_map]; exact Nat.le_trans (takeWhile_le _ _) hel
      have hdl : (restAt es kk).length ≤ es.length := dropWhile_le _ es
      have hstep := stepR_eq (ss := ss) (ids := (idsAt es kk)) hx0 hT
      obtain ⟨f, hf⟩ : ∃ f, tn - kk = f + 1 := ⟨tn - kk - 1, by omega⟩
      rw [hf, runP, hstep] at hrun
      dsimp only at hrun
      refine Ops.to rfl ?_
      refine Cd.seq ?_
      refine Cd.cond_t rfl ?_
      refine Cd.skipTo rfl ?_
      refine Cd.seq ?_
      refine Cd.block ?_
      refine Cd.seq ?_
      refine Cd.region ?_
      refine Ops.q (q_mv rfl) ?_
      refine Ops.q (q_asg rfl) ?_
      refine Ops.to rfl ?_
      refine Cd.seq ?_
      refine Cd.seq ?_
      refine Cd.region ?_
      refine Ops.q (q_mv rfl) ?_
      refine Ops.q (q_mv rfl) ?_
      refine Ops.q (q_mv rfl) ?_
      refine Ops.cm (α := {p : Option Addr × Nat × Option Addr × Nat // RoL w p.2.2.1 eEvt (restAt es kk) ∧ (restAt es kk).length ≤ p.2.2.2}) (v := fun p => .slice p.1.1 (idsAt es kk).length p.1.2.1) (A' := fun p => blk b3 145 [.slice p.1.2.2.1 (restAt es kk).length p.1.2.2.2] :: row p.1.1 p.1.2.1 3 1 (idsAt es kk).length ((idsAt es kk).flatMap eInt) :: blk S 182 ([.slice ma ns.length mc, .int .i64 ip, .slice sa ss.length sc, .map (some M), .int .i64 (kk : Int), .slice (some ⟨B, 0, none⟩) ns.length ns.length] ++ q.map (rcell ns.length)) :: row (some ⟨B, 0, none⟩) ns.length 184 2 ns.length (sts.flatMap eStt) :: row ma mc 116 8 ns.length (ns.flatMap ePrm) :: rd (wφ M E) :: row oa oc 88 2 out.length (out.flatMap eEvt) :: (q.map (rrow ns.length))) en_78 rfl (fun w' hs => (taker_c b3 ta tc es (kk : Int) w w' _ hes hec1 hel (hs.pull (.there (.there (.there (.there .here)))))).mono fun e w' h => by obtain ⟨p, h1, h2, h3, h4⟩ := h; exact ⟨⟨p, h2, h3⟩, h1, h4⟩) ?_
      rintro ⟨⟨da, dc, ta2, tc2⟩, hes2, hec2⟩
      dsimp only at hes2 hec2
      change Ops _ _ _ _ _ _ _ _ ((34, .slice da ((idsAt es kk).length) dc) :: _) (blk b3 145 [.slice ta2 ((restAt es kk).length) tc2] :: row da dc 3 1 ((idsAt es kk).length) ((idsAt es kk).flatMap eInt) :: blk S 182 ([.slice ma ns.length mc, .int .i64 ip, .slice sa ss.length sc, .map (some M), .int .i64 (kk : Int), .slice (some ⟨B, 0, none⟩) ns.length ns.length] ++ q.map (rcell ns.length)) :: row (some ⟨B, 0, none⟩) ns.length 184 2 ns.length (sts.flatMap eStt) :: row ma mc 116 8 ns.length (ns.flatMap ePrm) :: rd (wφ M E) :: row oa oc 88 2 out.length (out.flatMap eEvt) :: (q.map (rrow ns.length)))
      refine Ops.cm (α := Option Addr × Nat) (v := fun p => .slice p.1 (fireI 0 T).length p.2) (A' := fun p => blk S 182 ([.slice ma ns.length mc, .int .i64 ip, .slice sa ss.length sc, .map (some M), .int .i64 ((kk + 1 : Nat) : Int), .slice (some ⟨B, 0, none⟩) ns.length ns.length] ++ ((metS ss (fireI 0 T) (idsAt es kk)).foldl (addQ kk) (clrQ kk ns.length q)).map (rcell ns.length)) :: row (some ⟨B, 0, none⟩) ns.length 184 2 ns.length ((T.map (·.1)).flatMap eStt) :: row ma mc 116 8 ns.length (ns.flatMap ePrm) :: rd (wφ M E) :: row p.1 p.2 3 1 ((fireI 0 T).length) ((fireI 0 T).flatMap eInt) :: blk b3 145 [.slice ta2 ((restAt es kk).length) tc2] :: row oa oc 88 2 out.length (out.flatMap eEvt) :: (((metS ss (fireI 0 T) (idsAt es kk)).foldl (addQ kk) (clrQ kk ns.length q)).map (rrow ns.length))) en_77 rfl (fun w' hs => step_c S ma mc sa sc ns ip ss.length M E kk B sts q [blk b3 145 [.slice ta2 ((restAt es kk).length) tc2], row oa oc 88 2 out.length (out.flatMap eEvt)] da dc (idsAt es kk) ss x0 T w w' hW hss (by omega) (by omega) hstl hqo (by omega) hids hil hx0 hT ((((((((hs.pull (.there (.there (.there (.there (.there (.there .here))))))).pull (.there .here)).pull (.there (.there .here))).pull (.there (.there (.there (.there (.there (.there .here))))))).pull (.there (.there (.there (.there (.there (.there .here))))))).pull (.there (.there (.there (.there (.there (.there .here))))))).pull (.there (.there (.there (.there (.there (.there .here))))))))) ?_
      rintro ⟨fa, fc⟩
      change Ops _ _ _ _ _ _ _ _ ((35, .slice fa ((fireI 0 T).length) fc) :: _) (blk S 182 ([.slice ma ns.length mc, .int .i64 ip, .slice sa ss.length sc, .map (some M), .int .i64 ((kk + 1 : Nat) : Int), .slice (some ⟨B, 0, none⟩) ns.length ns.length] ++ ((metS ss (fireI 0 T) (idsAt es kk)).foldl (addQ kk) (clrQ kk ns.length q)).map (rcell ns.length)) :: row (some ⟨B, 0, none⟩) ns.length 184 2 ns.length ((T.map (·.1)).flatMap eStt) :: row ma mc 116 8 ns.length (ns.flatMap ePrm) :: rd (wφ M E) :: row fa fc 3 1 ((fireI 0 T).length) ((fireI 0 T).flatMap eInt) :: blk b3 145 [.slice ta2 ((restAt es kk).length) tc2] :: row oa oc 88 2 out.length (out.flatMap eEvt) :: (((metS ss (fireI 0 T) (idsAt es kk)).foldl (addQ kk) (clrQ kk ns.length q)).map (rrow ns.length)))
      refine Ops.q (q_len esz_26 rfl) ?_
      refine Ops.q (q_mv rfl) ?_
      refine Ops.to rfl ?_
      refine Cd.block ?_
      refine Cd.lp (σ := Nat × Option Addr × Nat) (fun s => s.1 ≤ (fireI 0 T).length) (fun s => [(9, .pointer (some ⟨S, 0, none⟩)), (10, .pointer (some ⟨b3, 0, none⟩)), (27, .int .i64 (tn : Int)), (28, .int .i64 (kk : Int)), (12, .int .i64 (kk : Int)), (35, .slice fa ((fireI 0 T).length) fc), (36, .int .i64 ((fireI 0 T).length : Int)), (11, .slice s.2.1 ((out ++ ((fireI 0 T).take s.1).map (fun i => (⟨(kk : Int), i⟩ : Evt))).length) s.2.2), (37, .int .i64 (s.1 : Int))]) (fun s => blk S 182 ([.slice ma ns.length mc, .int .i64 ip, .slice sa ss.length sc, .map (some M), .int .i64 ((kk + 1 : Nat) : Int), .slice (some ⟨B, 0, none⟩) ns.length ns.length] ++ ((metS ss (fireI 0 T) (idsAt es kk)).foldl (addQ kk) (clrQ kk ns.length q)).map (rcell ns.length)) :: row (some ⟨B, 0, none⟩) ns.length 184 2 ns.length ((T.map (·.1)).flatMap eStt) :: row ma mc 116 8 ns.length (ns.flatMap ePrm) :: rd (wφ M E) :: row fa fc 3 1 ((fireI 0 T).length) ((fireI 0 T).flatMap eInt) :: blk b3 145 [.slice ta2 ((restAt es kk).length) tc2] :: row s.2.1 s.2.2 88 2 ((out ++ ((fireI 0 T).take s.1).map (fun i => (⟨(kk : Int), i⟩ : Evt))).length) ((out ++ ((fireI 0 T).take s.1).map (fun i => (⟨(kk : Int), i⟩ : Evt))).flatMap eEvt) :: (((metS ss (fireI 0 T) (idsAt es kk)).foldl (addQ kk) (clrQ kk ns.length q)).map (rrow ns.length))) (fun s => (fireI 0 T).length - s.1) (0, oa, oc) (Nat.zero_le _) ⟨rfl, rfl, rfl, rfl, rfl, rfl, rfl, (by dsimp only; rw [show out ++ ((fireI 0 T).take 0).map (fun i => (⟨(kk : Int), i⟩ : Evt)) = out from List.append_nil _]; rfl), rfl, trivial⟩ (fun _ hs => by have h1 := (((((((hs.pull (.there (.there (.there (.there (.there (.there .here))))))).pull (.there (.there (.there (.there (.there (.there .here))))))).pull (.there (.there (.there (.there (.there (.there .here))))))).pull (.there (.there (.there (.there (.there (.there .here))))))).pull (.there (.there (.there (.there (.there (.there .here))))))).pull (.there (.there (.there (.there (.there (.there .here))))))).pull (.there (.there (.there (.there (.there (.there .here))))))); dsimp only; rw [show out ++ ((fireI 0 T).take 0).map (fun i => (⟨(kk : Int), i⟩ : Evt)) = out from List.append_nil _]; exact h1) ?_
      rintro ⟨jj, pa, pc⟩ hI
      dsimp only at hI
      change Cd _ _ _ _ _ _ _ [(9, .pointer (some ⟨S, 0, none⟩)), (10, .pointer (some ⟨b3, 0, none⟩)), (27, .int .i64 (tn : Int)), (28, .int .i64 (kk : Int)), (12, .int .i64 (kk : Int)), (35, .slice fa ((fireI 0 T).length) fc), (36, .int .i64 ((fireI 0 T).length : Int)), (11, .slice pa ((out ++ ((fireI 0 T).take jj).map (fun i => (⟨(kk : Int), i⟩ : Evt))).length) pc), (37, .int .i64 (jj : Int))] (blk S 182 ([.slice ma ns.length mc, .int .i64 ip, .slice sa ss.length sc, .map (some M), .int .i64 ((kk + 1 : Nat) : Int), .slice (some ⟨B, 0, none⟩) ns.length ns.length] ++ ((metS ss (fireI 0 T) (idsAt es kk)).foldl (addQ kk) (clrQ kk ns.length q)).map (rcell ns.length)) :: row (some ⟨B, 0, none⟩) ns.length 184 2 ns.length ((T.map (·.1)).flatMap eStt) :: row ma mc 116 8 ns.length (ns.flatMap ePrm) :: rd (wφ M E) :: row fa fc 3 1 ((fireI 0 T).length) ((fireI 0 T).flatMap eInt) :: blk b3 145 [.slice ta2 ((restAt es kk).length) tc2] :: row pa pc 88 2 ((out ++ ((fireI 0 T).take jj).map (fun i => (⟨(kk : Int), i⟩ : Evt))).length) ((out ++ ((fireI 0 T).take jj).map (fun i => (⟨(kk : Int), i⟩ : Evt))).flatMap eEvt) :: (((metS ss (fireI 0 T) (idsAt es kk)).foldl (addQ kk) (clrQ kk ns.length q)).map (rrow ns.length)))
      refine Cd.seq ?_
      refine Cd.region ?_
      by_cases hj0 : (jj : Int) < ((fireI 0 T).length : Int)
      · refine Ops.q (q_cmp rfl rfl (c_lt hj0)) ?_
        obtain ⟨x4, hx5⟩ : ∃ x, (fireI 0 T)[jj]? = some x := ⟨_, List.getElem?_eq_getElem (by omega)⟩
        refine Ops.rowpos (.there (.there (.there (.there .here)))) (by omega) ?_
        rintro rb6 rfl
        have hjl : (out ++ ((fireI 0 T).take jj).map (fun i => (⟨(kk : Int), i⟩ : Evt))).length ≤ out.length + jj := by rw [List.length_append, List.length_map, List.length_take]; omega
        refine Ops.to rfl ?_
        refine Cd.seq ?_
        refine Cd.cond_t rfl ?_
        refine Cd.skipTo rfl ?_
        refine Cd.seq ?_
        refine Cd.block ?_
        refine Cd.seq ?_
        refine Cd.region ?_
        refine Ops.q (q_ix (k := jj) esz_26 rfl rfl (by omega)) ?_
        refine Ops.q (q_ldO isA_3 rfl (.there (.there (.there (.there .here)))) (fm_at0 eInt_len hx5 rfl)) ?_
        refine Ops.q (q_asg rfl) ?_
        refine Ops.to rfl ?_
        refine Cd.region ?_
        refine Ops.q (q_mv rfl) ?_
        refine Ops.q (q_mv rfl) ?_
        refine Ops.q (q_mv rfl) ?_
        refine Ops.q (q_bld [.int .i64 (kk : Int), .int .i64 x4] pls_88 zc_88 rfl rfl) ?_
        refine Ops.lit [.int .i64 (kk : Int), .int .i64 x4] el_27 zsb_88 rfl rfl ⟨by decide, by decide⟩ rfl ?_
        intro b7
        refine Ops.app (news := [.int .i64 (kk : Int), .int .i64 x4]) el_27 zsb_88 (by decide) rfl rfl (fun _ hs => hs.ownRo .here) (fun _ hs => (hs.pull .here).drop) (fun _ _ => (.there (.there (.there (.there (.there (.there .here))))))) rfl (one rfl) (by omega) (by omega) ?_
        intro a8 c9
        refine Ops.q (q_asg rfl) ?_
        refine Ops.to rfl ?_
        refine Cd.region ?_
        refine Ops.q (q_ar rfl rfl (a_inc (by omega))) ?_
        refine Ops.q (q_mv rfl) ?_
        refine Ops.rnd ((jj + 1, a8, c9)) rfl (by dsimp only; exact (by omega)) (by dsimp only; omega) ⟨rfl, rfl, rfl, rfl, rfl, rfl, rfl, (by dsimp only; rw [out_len hx5]; rfl), rfl, trivial⟩ (fun _ hs => by have h1 := (((((((hs.pull (.there (.there (.there (.there (.there (.there .here))))))).pull (.there (.there (.there (.there (.there (.there .here))))))).pull (.there (.there (.there (.there (.there (.there .here))))))).pull (.there (.there (.there (.there (.there (.there .here))))))).pull (.there (.there (.there (.there (.there (.there .here))))))).pull (.there (.there (.there (.there (.there (.there .here))))))).pull (.there (.there (.there (.there (.there (.there .here))))))); dsimp only; rw [out_len hx5, out_app hx5, fm_app]; exact h1) 
      · refine Ops.q (q_cmp rfl rfl (c_nlt (by omega))) ?_
        refine Ops.to rfl ?_
        refine Cd.seq ?_
        refine Cd.cond_f rfl ?_
        refine Cd.exitTo rfl ?_
        refine Cd.seq ?_
        have hOj : (out ++ ((fireI 0 T).take jj).map (fun i => (⟨(kk : Int), i⟩ : Evt))) = out ++ (fireI 0 T).map (fun i => (⟨(kk : Int), i⟩ : Evt)) := by rw [List.take_of_length_le (by omega)]
        have hOl : (out ++ (fireI 0 T).map (fun i => (⟨(kk : Int), i⟩ : Evt))).length = (out ++ ((fireI 0 T).take jj).map (fun i => (⟨(kk : Int), i⟩ : Evt))).length := by rw [hOj]
        refine Cd.region ?_
        refine Ops.q (q_mv rfl) ?_
        refine Ops.q (q_len esz_27 rfl) ?_
        by_cases h10 : 65536 < ((out ++ ((fireI 0 T).take jj).map (fun i => (⟨(kk : Int), i⟩ : Evt))).length : Int)
        · refine Ops.q (q_cmp rfl rfl (c_gt h10)) ?_
          refine Ops.to rfl ?_
          refine Cd.cond_t rfl ?_
          refine Cd.seq ?_
          refine Cd.region ?_
          refine Ops.q (q_asg rfl) ?_
          refine Ops.q (q_asg rfl) ?_
          refine Ops.to rfl ?_
          refine Cd.rt (fn := Try.f36) [.slice none 0 0, .int .i64 8] (by with_reducible repeat (first | exact rq_here | apply rq_then | apply rq_block)) rfl ⟨rfl, rfl, trivial⟩ ?_
          intro w' hs'
          rw [if_neg (by simpa using hp), Int.toNat_natCast]; rw [if_pos (by omega)] at hrun; rw [← hrun]; exact ⟨rfl, hs'.none⟩
        · refine Ops.q (q_cmp rfl rfl (c_ngt (by omega))) ?_
          refine Ops.to rfl ?_
          refine Cd.cond_f rfl ?_
          refine Cd.skipTo rfl ?_
          refine Cd.region ?_
          refine Ops.q (q_ar rfl rfl (a_inc (by omega))) ?_
          refine Ops.q (q_mv rfl) ?_
          refine Ops.rnd ((kk + 1, (T.map (·.1)), ((metS ss (fireI 0 T) (idsAt es kk)).foldl (addQ kk) (clrQ kk ns.length q)), (restAt es kk), (out ++ (fireI 0 T).map (fun i => (⟨(kk : Int), i⟩ : Evt))), ta2, tc2, pa, pc)) rfl (by dsimp only; exact (⟨by omega, by rw [List.length_map]; omega, (ringOK.clr hqo).addAll _, hes2, hec2, by omega, fun e he => hei e (dropWhile_mem he), by omega, by rw [if_neg (by omega)] at hrun; rw [← hrun, show tn - (kk + 1) = f by omega]⟩)) (by dsimp only; omega) ⟨rfl, rfl, rfl, (by dsimp only; rw [← hOj]; rfl), rfl, trivial⟩ (fun _ hs => by have h1 := (((((((hs.pull (.there (.there (.there (.there (.there (.there .here))))))).pull (.there (.there (.there (.there (.there (.there .here))))))).pull (.there (.there (.there (.there (.there .here)))))).pull (.there (.there (.there (.there (.there .here)))))).pull (.there (.there (.there (.there (.there .here)))))).pull (.there (.there (.there (.there (.there .here)))))).pull (.there (.there (.there (.there (.there (.there .here))))))).drop; rw [hOj] at h1; exact h1) 
    · refine Ops.q (q_cmp rfl rfl (c_nlt (by omega))) ?_
      refine Ops.to rfl ?_
      refine Cd.seq ?_
      refine Cd.cond_f rfl ?_
      refine Cd.exitTo rfl ?_
      refine Cd.seq ?_
      refine Cd.region ?_
      refine Ops.q (q_mv rfl) ?_
      refine Ops.q (q_asg rfl) ?_
      refine Ops.q (q_asg rfl) ?_
      refine Ops.to rfl ?_
      refine Cd.rt (fn := Try.f36) [.slice oa out.length oc, .int .i64 0] (by with_reducible repeat (first | exact rq_here | apply rq_then | apply rq_block)) rfl ⟨rfl, rfl, trivial⟩ ?_
      intro w' hs'
      obtain ⟨hk1, hstl, hqo, hes, hec1, hel, hei, hol, hrun⟩ := hI
      rw [show tn - kk = 0 by omega, runP] at hrun
      rw [if_neg (by simpa using hp), Int.toNat_natCast, ← hrun]
      exact ⟨(oa, oc), rfl, hs'.only (.there (.there (.there (.there (.there .here)))))⟩
  · refine Ops.q (q_cmp rfl rfl (c_ne h2)) ?_
    refine Ops.to rfl ?_
    refine Cd.cond_t rfl ?_
    refine Cd.seq ?_
    refine Cd.region ?_
    refine Ops.q (q_mv rfl) ?_
    refine Ops.q (q_asg rfl) ?_
    refine Ops.q (q_asg rfl) ?_
    refine Ops.to rfl ?_
    refine Cd.rt (fn := Try.f36) [.slice none 0 0, .int .i64 (preparedE ⟨ns, ip, ss⟩ evs t 10000)] (by with_reducible repeat (first | exact rq_here | apply rq_then | apply rq_block)) rfl ⟨rfl, rfl, trivial⟩ ?_
    intro w' hs'
    rw [if_pos h2]; exact ⟨rfl, hs'.none⟩
end Go.Proofs.Ytilcdghliigngaa
namespace Go.Proofs.Ytilcdghliigngaa
open Go.RowKit Go.Proofs.YtilcdghliigngaaGl Go.Proofs.YtilcdghliigngaaPm
set_option linter.unusedVariables false
set_option linter.unusedSimpArgs false
theorem feed_c (B : Nat) (na : Option Addr) (nc : Nat) (sa : Option Addr) (sc : Nat) (ns : List Prm) (ip : Int) (ss : List Syn) (f t d e : Int) (w0 w : World) (F : List Atom) (hm : ss.length < 10000000) (hf : -1000000 ≤ f ∧ f ≤ 1000000) (hs : Sat w0 w (bld B na nc sa sc ns ip ss F)) :
    Calls Try.prog 51 [.pointer (some ⟨B, 0, none⟩), .int .i64 f, .int .i64 t, .int .i64 d, .int .i64 e].toArray w fun en w' => ∃ p : Option Addr × Nat, en = .returned (.tuple #[]) ∧ Sat w0 w' (bld B na nc p.1 p.2 ns ip (ss ++ [⟨-1 - f, t, d, e⟩]) F) := by
  refine fstart Try.func51 rfl rfl hs ?_
  refine Cd.region ?_
  refine Ops.q (q_mv rfl) ?_
  refine Ops.q (q_mv rfl) ?_
  refine Ops.q (q_ar (v := -1 - f) rfl rfl (a_sub (by omega))) ?_
  refine Ops.q (q_mv rfl) ?_
  refine Ops.q (q_mv rfl) ?_
  refine Ops.q (q_mv rfl) ?_
  refine Ops.cm (α := Option Addr × Nat) (v := fun _ => .tuple #[]) (A' := fun p => blk B 114 [.slice na ns.length nc, .int .i64 ip, .slice p.1 ((ss ++ [(⟨-1 - f, t, d, e⟩ : Syn)]).length) p.2] :: row na nc 116 8 ns.length (ns.flatMap ePrm) :: row p.1 p.2 126 4 ((ss ++ [(⟨-1 - f, t, d, e⟩ : Syn)]).length) ((ss ++ [(⟨-1 - f, t, d, e⟩ : Syn)]).flatMap eSyn) :: F) en_50 rfl (fun w hs => join_c _ _ _ _ _ ns _ ss (-1 - f) t d e _ w _ (hm) ((((hs.pull (.there (.there .here))).pull (.there (.there .here))).pull (.there (.there .here))))) ?_
  rintro ⟨a1, c2⟩
  refine Ops.fin rfl rfl ?_
  intro w' hs'
  exact ⟨(a1, c2), rfl, hs'⟩
theorem selves_len : ∀ (n i : Nat), (selvesFrom i n).length = n
  | 0, _ => rfl
  | n + 1, i => by simp [selvesFrom, selves_len n (i + 1)]
theorem selves_snoc_at : ∀ (n i : Nat), selvesFrom i (n + 1) = selvesFrom i n ++ [⟨((i + n : Nat) : Int), ((i + n : Nat) : Int), -32768, 1⟩]
  | 0, i => rfl
  | n + 1, i => by
    rw [selvesFrom, selves_snoc_at n (i + 1), selvesFrom]
    rw [show i + 1 + n = i + (n + 1) by omega]; rfl
theorem selves_snoc (n : Nat) : selvesFrom 0 (n + 1) = selvesFrom 0 n ++ [⟨(n : Int), (n : Int), -32768, 1⟩] := by
  have := selves_snoc_at n 0
  rwa [Nat.zero_add] at this
theorem selves_c (B : Nat) (na : Option Addr) (nc : Nat) (sa : Option Addr) (sc : Nat) (ns : List Prm) (ip : Int) (ss : List Syn) (w0 w : World) (F : List Atom) (hm : ss.length < 1000000) (hn : ns.length < 1000000) (hs : Sat w0 w (bld B na nc sa sc ns ip ss F)) :
    Calls Try.prog 61 [.pointer (some ⟨B, 0, none⟩)].toArray w fun en w' => ∃ p : Option Addr × Nat, en = .returned (.tuple #[]) ∧ Sat w0 w' (bld B na nc p.1 p.2 ns ip (ss ++ selvesFrom 0 ns.length) F) := by
  refine fstart Try.func61 rfl rfl hs ?_
  refine Cd.seq ?_
  refine Cd.region ?_
  refine Ops.q (q_mv rfl) ?_
  refine Ops.q (q_nck rfl) ?_
  refine Ops.q (q_fa fo_114_0 rfl) ?_
  refine Ops.q (q_fa fo_32_0 rfl) ?_
  refine Ops.q (q_ldB isA_29 rfl .here rfl) ?_
  refine Ops.q (q_len esz_29 rfl) ?_
  refine Ops.q (q_mv rfl) ?_
  refine Ops.to rfl ?_
  refine Cd.block ?_
  refine Cd.lp (σ := Nat × Option Addr × Nat) (fun s => s.1 ≤ ns.length) (fun s => [(0, .pointer (some ⟨B, 0, none⟩)), (8, .int .i64 (ns.length : Int)), (9, .int .i64 (s.1 : Int))]) (fun s => blk B 114 [.slice na ns.length nc, .int .i64 ip, .slice s.2.1 ((ss ++ selvesFrom 0 s.1).length) s.2.2] :: row na nc 116 8 ns.length (ns.flatMap ePrm) :: row s.2.1 s.2.2 126 4 ((ss ++ selvesFrom 0 s.1).length) ((ss ++ selvesFrom 0 s.1).flatMap eSyn) :: F) (fun s => ns.length - s.1) (0, sa, sc) (Nat.zero_le _) ⟨rfl, rfl, rfl, trivial⟩ (fun _ hs => by dsimp only; rw [show ss ++ selvesFrom 0 0 = ss from List.append_nil _]; exact hs) ?_
  rintro ⟨kk, pa, pc⟩ hI
  dsimp only at hI
  change Cd _ _ _ _ _ _ _ [(0, .pointer (some ⟨B, 0, none⟩)), (8, .int .i64 (ns.length : Int)), (9, .int .i64 (kk : Int))] (blk B 114 [.slice na ns.length nc, .int .i64 ip, .slice pa ((ss ++ selvesFrom 0 kk).length) pc] :: row na nc 116 8 ns.length (ns.flatMap ePrm) :: row pa pc 126 4 ((ss ++ selvesFrom 0 kk).length) ((ss ++ selvesFrom 0 kk).flatMap eSyn) :: F)
  refine Cd.seq ?_
  refine Cd.region ?_
  by_cases h1 : (kk : Int) < (ns.length : Int)
  · refine Ops.q (q_cmp rfl rfl (c_lt h1)) ?_
    refine Ops.to rfl ?_
    refine Cd.seq ?_
    refine Cd.cond_t rfl ?_
    refine Cd.skipTo rfl ?_
    refine Cd.seq ?_
    refine Cd.block ?_
    refine Cd.seq ?_
    refine Cd.region ?_
    refine Ops.q (q_mv rfl) ?_
    refine Ops.q (q_asg rfl) ?_
    refine Ops.to rfl ?_
    refine Cd.region ?_
    refine Ops.q (q_mv rfl) ?_
    refine Ops.q (q_mv rfl) ?_
    refine Ops.q (q_mv rfl) ?_
    refine Ops.cm (α := Option Addr × Nat) (v := fun _ => .tuple #[]) (A' := fun p => blk B 114 [.slice na ns.length nc, .int .i64 ip, .slice p.1 (((ss ++ selvesFrom 0 kk) ++ [(⟨(kk : Int), (kk : Int), -32768, 1⟩ : Syn)]).length) p.2] :: row na nc 116 8 ns.length (ns.flatMap ePrm) :: row p.1 p.2 126 4 (((ss ++ selvesFrom 0 kk) ++ [(⟨(kk : Int), (kk : Int), -32768, 1⟩ : Syn)]).length) (((ss ++ selvesFrom 0 kk) ++ [(⟨(kk : Int), (kk : Int), -32768, 1⟩ : Syn)]).flatMap eSyn) :: F) en_50 rfl (fun w hs => join_c _ _ _ _ _ ns _ (ss ++ selvesFrom 0 kk) (kk : Int) (kk : Int) (-32768) 1 _ w _ (by rw [List.length_append, selves_len]; omega) ((((hs.pull (.there (.there .here))).pull (.there (.there .here))).pull (.there (.there .here))))) ?_
    rintro ⟨a2, c3⟩
    refine Ops.to rfl ?_
    refine Cd.region ?_
    refine Ops.q (q_ar rfl rfl (a_inc (by omega))) ?_
    refine Ops.q (q_mv rfl) ?_
    refine Ops.rnd ((kk + 1, a2, c3)) rfl (by dsimp only; exact (by omega)) (by dsimp only; omega) ⟨rfl, rfl, rfl, trivial⟩ (fun _ hs => by dsimp only; rw [selves_snoc, ← List.append_assoc]; exact hs) 
  · refine Ops.q (q_cmp rfl rfl (c_nlt (by omega))) ?_
    refine Ops.to rfl ?_
    refine Cd.seq ?_
    refine Cd.cond_f rfl ?_
    refine Cd.exitFin (fn := Try.f61) (by with_reducible repeat (first | exact xq_here | apply xq_then | apply xq_block | apply nq_block)) rfl ?_
    intro w' hs'
    have hk : kk = ns.length := by omega
    subst hk
    exact ⟨(pa, pc), rfl, hs'⟩
theorem grow_c (B : Nat) (p : Prm) (w : World) : Calls Try.prog 49 [.pointer (some ⟨B, 0, none⟩), .agg (ePrm p).toArray].toArray w fun e w' => ∃ x : Nat × Nat, e = .returned (.func (.func 86) #[] #[.pointer (some ⟨x.1, 0, none⟩), .pointer (some ⟨x.2, 0, none⟩)]) ∧ Sat w w' [blk x.1 116 (ePrm p), blk x.2 161 [.pointer (some ⟨B, 0, none⟩)]] := by
  refine fstart Try.func49 rfl rfl (Sat.nil w) ?_
  refine Cd.seq ?_
  refine Cd.region ?_
  refine Ops.box [.pointer (some ⟨B, 0, none⟩)] rfl rfl ?_
  intro b1
  refine Ops.box [.int .i64 p.lk, .int .i64 p.leak, .int .i64 p.bias, .int .i64 p.th, .int .i64 p.rk, .int .i64 p.rs, .int .i64 p.fl, .int .i64 p.rest] rfl rfl ?_
  intro b2
  refine Ops.q (q_asg rfl) ?_
  refine Ops.to rfl ?_
  refine Cd.seq ?_
  refine Cd.region ?_
  refine Ops.q (q_mkf rfl rfl) ?_
  refine Ops.q (q_asg rfl) ?_
  refine Ops.to rfl ?_
  refine Cd.rt (fn := Try.f49) [.func (.func 86) #[] #[.pointer (some ⟨b2, 0, none⟩), .pointer (some ⟨b1, 0, none⟩)]] (by with_reducible repeat (first | exact rq_here | apply rq_then | apply rq_block)) rfl ⟨rfl, trivial⟩ ?_
  intro w' hs
  exact ⟨(b2, b1), rfl, ((hs.pull (.there .here)).pull (.there .here))⟩
theorem gl_app {hs : List Int} {j : Nat} {x : Int} (hx : hs[j]? = some x) {ns : List Prm} {p : Prm} : ns ++ (hs.take (j + 1)).map (setTh p) = (ns ++ (hs.take j).map (setTh p)) ++ [setTh p x] := by
  rw [List.take_add_one, hx, List.map_append, ← List.append_assoc]; rfl
theorem gl_len {hs : List Int} {j : Nat} {x : Int} (hx : hs[j]? = some x) {ns : List Prm} {p : Prm} : ((ns ++ (hs.take j).map (setTh p)) ++ [setTh p x]).length = (ns ++ (hs.take j).map (setTh p)).length + 1 := by
  rw [List.length_append]; rfl
theorem grown_c (B : Nat) (na : Option Addr) (nc : Nat) (sa : Option Addr) (sc : Nat) (ns : List Prm) (ip : Int) (ss : List Syn) (pb bb : Nat) (ta : Option Addr) (tc : Nat) (ths : List Int) (p : Prm) (w0 w : World) (F : List Atom) (hn : ns.length + ths.length < 10000000)
    (hst : Sat w0 w (bld B na nc sa sc ns ip ss (blk pb 116 (ePrm p) :: blk bb 161 [.pointer (some ⟨B, 0, none⟩)] :: row ta tc 3 1 ths.length (ths.flatMap eInt) :: F))) :
    Calls Try.prog 86 [.slice ta ths.length tc, .pointer (some ⟨pb, 0, none⟩), .pointer (some ⟨bb, 0, none⟩)].toArray w fun en w' => ∃ q : Option Addr × Nat, en = .returned (.tuple #[]) ∧
      Sat w0 w' (bld B q.1 q.2 sa sc (ns ++ ths.map (setTh p)) ip ss (blk pb 116 (ePrm p) :: blk bb 161 [.pointer (some ⟨B, 0, none⟩)] :: row ta tc 3 1 ths.length (ths.flatMap eInt) :: F)) := by
  refine fstart Try.func86 rfl rfl hst ?_
  refine Cd.seq ?_
  refine Cd.region ?_
  refine Ops.q (q_mv rfl) ?_
  refine Ops.q (q_len esz_26 rfl) ?_
  refine Ops.q (q_mv rfl) ?_
  refine Ops.to rfl ?_
  refine Cd.block ?_
  refine Cd.lp (σ := Nat × Option Addr × Nat) (fun s => s.1 ≤ ths.length) (fun s => [(1, .pointer (some ⟨pb, 0, none⟩)), (2, .pointer (some ⟨bb, 0, none⟩)), (7, .slice ta ths.length tc), (8, .int .i64 (ths.length : Int)), (9, .int .i64 (s.1 : Int))]) (fun s => blk B 114 [.slice s.2.1 ((ns ++ (ths.take s.1).map (setTh p)).length) s.2.2, .int .i64 ip, .slice sa ss.length sc] :: row s.2.1 s.2.2 116 8 ((ns ++ (ths.take s.1).map (setTh p)).length) ((ns ++ (ths.take s.1).map (setTh p)).flatMap ePrm) :: row sa sc 126 4 ss.length (ss.flatMap eSyn) :: blk pb 116 [.int .i64 p.lk, .int .i64 p.leak, .int .i64 p.bias, .int .i64 p.th, .int .i64 p.rk, .int .i64 p.rs, .int .i64 p.fl, .int .i64 p.rest] :: blk bb 161 [.pointer (some ⟨B, 0, none⟩)] :: row ta tc 3 1 ths.length (ths.flatMap eInt) :: F) (fun s => ths.length - s.1) (0, na, nc) (Nat.zero_le _) ⟨rfl, rfl, rfl, rfl, rfl, trivial⟩ (fun _ hs => by dsimp only; rw [show ns ++ (ths.take 0).map (setTh p) = ns from List.append_nil _]; exact hs) ?_
  rintro ⟨kk, pa, pc⟩ hI
  dsimp only at hI
  change Cd _ _ _ _ _ _ _ [(1, .pointer (some ⟨pb, 0, none⟩)), (2, .pointer (some ⟨bb, 0, none⟩)), (7, .slice ta ths.length tc), (8, .int .i64 (ths.length : Int)), (9, .int .i64 (kk : Int))] (blk B 114 [.slice pa ((ns ++ (ths.take kk).map (setTh p)).length) pc, .int .i64 ip, .slice sa ss.length sc] :: row pa pc 116 8 ((ns ++ (ths.take kk).map (setTh p)).length) ((ns ++ (ths.take kk).map (setTh p)).flatMap ePrm) :: row sa sc 126 4 ss.length (ss.flatMap eSyn) :: blk pb 116 [.int .i64 p.lk, .int .i64 p.leak, .int .i64 p.bias, .int .i64 p.th, .int .i64 p.rk, .int .i64 p.rs, .int .i64 p.fl, .int .i64 p.rest] :: blk bb 161 [.pointer (some ⟨B, 0, none⟩)] :: row ta tc 3 1 ths.length (ths.flatMap eInt) :: F)
  refine Cd.seq ?_
  refine Cd.region ?_
  by_cases h1 : (kk : Int) < (ths.length : Int)
  · refine Ops.q (q_cmp rfl rfl (c_lt h1)) ?_
    obtain ⟨x2, hx3⟩ : ∃ x, ths[kk]? = some x := ⟨_, List.getElem?_eq_getElem (by omega)⟩
    refine Ops.rowpos (.there (.there (.there (.there (.there .here))))) (by omega) ?_
    rintro rb4 rfl
    have hNl : (ns ++ (ths.take kk).map (setTh p)).length ≤ ns.length + kk := by rw [List.length_append, List.length_map, List.length_take]; omega
    refine Ops.to rfl ?_
    refine Cd.seq ?_
    refine Cd.cond_t rfl ?_
    refine Cd.skipTo rfl ?_
    refine Cd.seq ?_
    refine Cd.block ?_
    refine Cd.seq ?_
    refine Cd.region ?_
    refine Ops.q (q_ix (k := kk) esz_26 rfl rfl (by omega)) ?_
    refine Ops.q (q_ldO isA_3 rfl (.there (.there (.there (.there (.there .here))))) (fm_at0 eInt_len hx3 rfl)) ?_
    refine Ops.q (q_asg rfl) ?_
    refine Ops.to rfl ?_
    refine Cd.seq ?_
    refine Cd.region ?_
    refine Ops.q (q_ldBN [.int .i64 p.lk, .int .i64 p.leak, .int .i64 p.bias, .int .i64 p.th, .int .i64 p.rk, .int .i64 p.rs, .int .i64 p.fl, .int .i64 p.rest] isA_116 sz_116 rfl (.there (.there (.there .here))) rfl) ?_
    refine Ops.alc [.int .i64 0, .int .i64 0, .int .i64 0, .int .i64 0, .int .i64 0, .int .i64 0, .int .i64 0, .int .i64 0] zc_116 ?_
    intro b5
    refine Ops.stB [.int .i64 p.lk, .int .i64 p.leak, .int .i64 p.bias, .int .i64 p.th, .int .i64 p.rk, .int .i64 p.rs, .int .i64 p.fl, .int .i64 p.rest] [.int .i64 p.lk, .int .i64 p.leak, .int .i64 p.bias, .int .i64 p.th, .int .i64 p.rk, .int .i64 p.rs, .int .i64 p.fl, .int .i64 p.rest] sz_116 rfl rfl rfl (one rfl) .here rfl rfl ?_
    refine Ops.to rfl ?_
    refine Cd.seq ?_
    refine Cd.region ?_
    refine Ops.q (q_mv rfl) ?_
    refine Ops.q (q_fa fo_116_3 rfl) ?_
    refine Ops.stB [.int .i64 x2] [.int .i64 p.lk, .int .i64 p.leak, .int .i64 p.bias, .int .i64 x2, .int .i64 p.rk, .int .i64 p.rs, .int .i64 p.fl, .int .i64 p.rest] sz_3 rfl rfl rfl (one rfl) .here rfl rfl ?_
    refine Ops.to rfl ?_
    refine Cd.draw rfl (by kernel_rfl) (.cons (.there (.there (.there (.there (.there .here))))) (.cons (.there .here) (.cons .here .nil))) ?_
    intro F6 St7 hP8 hF9 hR10
    refine Dr.q (i := 0) hP8 rfl (by kernel_rfl) (q_ldB isA_161 rfl .here rfl) ?_
    refine Dr.q (i := 1) hP8 rfl (by kernel_rfl) (q_ldB isA_161 rfl .here rfl) ?_
    refine Dr.q (i := 2) hP8 rfl (by kernel_rfl) (q_nck rfl) ?_
    refine Dr.q (i := 3) hP8 rfl (by kernel_rfl) (q_fa fo_114_0 rfl) ?_
    refine Dr.q (i := 4) hP8 rfl (by kernel_rfl) (q_fa fo_32_0 rfl) ?_
    refine Dr.q (i := 5) hP8 rfl (by kernel_rfl) (q_ldB isA_29 rfl (.there .here) rfl) ?_
    refine Dr.q (i := 6) hP8 rfl (by kernel_rfl) (q_ldBN [.int .i64 p.lk, .int .i64 p.leak, .int .i64 p.bias, .int .i64 x2, .int .i64 p.rk, .int .i64 p.rs, .int .i64 p.fl, .int .i64 p.rest] isA_116 sz_116 rfl (.there (.there .here)) rfl) ?_
    refine Dr.e (i := 7) rfl (by kernel_rfl) ?_
    refine Ops.lit [.int .i64 p.lk, .int .i64 p.leak, .int .i64 p.bias, .int .i64 x2, .int .i64 p.rk, .int .i64 p.rs, .int .i64 p.fl, .int .i64 p.rest] el_29 zsb_116 rfl rfl ⟨by decide, by decide⟩ rfl ?_
    intro b11
    refine Dr.back (fun _ hs => hF9 (.there .here) hs) ?_
    refine Dr.e (i := 8) rfl (by kernel_rfl) ?_
    refine Ops.app (news := [.int .i64 p.lk, .int .i64 p.leak, .int .i64 p.bias, .int .i64 x2, .int .i64 p.rk, .int .i64 p.rs, .int .i64 p.fl, .int .i64 p.rest]) el_29 zsb_116 (by decide) rfl rfl (fun _ hs => hs.ownRo .here) (fun _ hs => (hs.pull .here).drop) (fun _ _ => (.there .here)) rfl (one rfl) (by omega) (by omega) ?_
    intro a12 c13
    refine Dr.back (fun _ hs => hF9 .here hs) ?_
    refine Dr.tail 9 (by kernel_rfl) ?_
    refine Ops.sat ?_ (fun _ hs => hR10 .here hs)
    refine Ops.q (q_nck rfl) ?_
    refine Ops.q (q_fa fo_114_0 rfl) ?_
    refine Ops.q (q_fa fo_32_0 rfl) ?_
    refine Ops.stB [.slice a12 (((ns ++ (ths.take kk).map (setTh p)).length) + 1) c13] [.slice a12 (((ns ++ (ths.take kk).map (setTh p)).length) + 1) c13, .int .i64 ip, .slice sa ss.length sc] sz_29 rfl rfl rfl (one rfl) (.there .here) rfl rfl ?_
    refine Ops.to rfl ?_
    refine Cd.region ?_
    refine Ops.q (q_ar rfl rfl (a_inc (by omega))) ?_
    refine Ops.q (q_mv rfl) ?_
    refine Ops.rnd ((kk + 1, a12, c13)) rfl (by dsimp only; exact (by omega)) (by dsimp only; omega) ⟨rfl, rfl, rfl, rfl, rfl, trivial⟩ (fun _ hs => by have h1 := (((((((hs.pull (.there (.there (.there (.there (.there (.there .here))))))).pull (.there .here)).pull (.there (.there (.there (.there (.there (.there .here))))))).pull (.there (.there (.there (.there (.there (.there .here))))))).pull (.there (.there (.there (.there (.there (.there .here))))))).pull (.there (.there (.there (.there (.there .here)))))).pull (.there (.there (.there (.there (.there (.there .here))))))).drop; dsimp only; rw [gl_app hx3, gl_len hx3, fm_app]; exact h1) 
  · refine Ops.q (q_cmp rfl rfl (c_nlt (by omega))) ?_
    refine Ops.to rfl ?_
    refine Cd.seq ?_
    refine Cd.cond_f rfl ?_
    refine Cd.exitFin (fn := Try.f86) (by with_reducible repeat (first | exact xq_here | apply xq_then | apply xq_block | apply nq_block)) rfl ?_
    intro w' hs'
    have hk : ths.take kk = ths := List.take_of_length_le (by omega)
    rw [hk] at hs'
    exact ⟨(pa, pc), rfl, hs'⟩
end Go.Proofs.Ytilcdghliigngaa
namespace Go.Proofs.Ytilcdghliigngaa
open Go.RowKit Go.Proofs.YtilcdghliigngaaGl Go.Proofs.YtilcdghliigngaaPm
set_option linter.unusedVariables false
set_option linter.unusedSimpArgs false
def RetR (r : Except Int NetP) (w : World) (e : Ending) (w' : World) : Prop :=
  match r with
  | .ok N => ∃ (p q : Option Addr × Nat), e = .returned (.tuple #[.agg #[.slice p.1 N.ns.length p.2, .int .i64 N.inp, .slice q.1 N.ss.length q.2], .int .i64 0]) ∧ Sat w w' [row p.1 p.2 116 8 N.ns.length (N.ns.flatMap ePrm), row q.1 q.2 126 4 N.ss.length (N.ss.flatMap eSyn)]
  | .error c => e = .returned (.tuple #[.agg #[.slice none 0 0, .int .i64 0, .slice none 0 0], .int .i64 c]) ∧ Sat w w' []
theorem rg_app {α : Type} (f : Nat → α) (k : Nat) : (List.range (k + 1)).map f = (List.range k).map f ++ [f k] := by rw [List.range_succ, List.map_append]; rfl
theorem rg_len {α : Type} (f : Nat → α) (k : Nat) : ((List.range k).map f).length = k := by simp
theorem rf_app {α : Type} (f : Nat → List α) (k : Nat) : (List.range (k + 1)).flatMap f = (List.range k).flatMap f ++ f k := by rw [List.range_succ, List.flatMap_append]; simp
def sortNs (m : Nat) : List Prm := (List.range m).map fun i : Nat => setTh (onceP 0) ((i : Int) + 1)
def sortTo (m j : Nat) : List Syn := (List.range m).map fun i : Nat => (⟨-1 - (i : Int), (j : Int), 1, 1⟩ : Syn)
def sortP (n : Int) : Except Int NetP :=
  if wi n 1 64 then .ok ⟨sortNs n.toNat, n, selvesFrom 0 n.toNat ++ (List.range n.toNat).flatMap (sortTo n.toNat)⟩ else .error 3
theorem rf_len {α : Type} {f : Nat → List α} {c : Nat} (h : ∀ i, (f i).length = c) : ∀ k, ((List.range k).flatMap f).length = k * c
  | 0 => by simp
  | k + 1 => by rw [rf_app, List.length_append, rf_len h k, h, Nat.succ_mul]
theorem sortTo_len (m j : Nat) : (sortTo m j).length = m := by simp [sortTo]
theorem sort_small {k jj ii : Nat} (hk : 1 ≤ k ∧ k ≤ 64) (hj : jj ≤ k) (hi : ii ≤ k) : (((([] : List Syn) ++ selvesFrom 0 ((List.range k).map fun i : Nat => setTh (onceP 0) ((i : Int) + 1)).length) ++ (List.range jj).flatMap (sortTo k)) ++ (List.range ii).map (fun i : Nat => (⟨-1 - (i : Int), (jj : Int), 1, 1⟩ : Syn))).length < 10000000 := by
  simp only [List.length_append, List.length_map, List.length_range, selves_len, rf_len (sortTo_len _), List.length_nil]
  have : jj * k ≤ 64 * 64 := Nat.mul_le_mul (by omega) (by omega)
  omega
theorem sort_c (n : Int) (w : World) : Calls Try.prog 24 [.int .i64 n].toArray w (RetR (sortP n) w) := by
  refine fstart Try.func24 rfl rfl (Sat.nil w) ?_
  refine Cd.seq ?_
  refine Cd.region ?_
  refine Ops.alc [.slice none 0 0, .int .i64 0, .slice none 0 0] zc_32 ?_
  intro b1
  refine Ops.q (q_asg rfl) ?_
  refine Ops.to rfl ?_
  refine Cd.seq ?_
  refine Cd.seq ?_
  refine Cd.region ?_
  refine Ops.q (q_mv rfl) ?_
  by_cases h2 : wi n 1 64
  · refine Ops.cp en_57 rfl (fun w hs => dT (in_c _ _ _ w) h2) ?_
    refine Ops.q (q_not rfl) ?_
    refine Ops.to rfl ?_
    refine Cd.cond_f rfl ?_
    refine Cd.skipTo rfl ?_
    refine Cd.seq ?_
    refine Cd.region ?_
    obtain ⟨m, rfl⟩ : ∃ j : Nat, n = (j : Int) := ⟨n.toNat, by unfold wi at h2; omega⟩
    have hm : 1 ≤ m ∧ m ≤ 64 := by unfold wi at h2; omega
    refine Ops.q (q_mv rfl) ?_
    refine Ops.q (q_bld [.slice none 0 0, .int .i64 (m : Int), .slice none 0 0] pls_32 zc_32 rfl rfl) ?_
    refine Ops.q (q_bld [.slice none 0 0, .int .i64 (m : Int), .slice none 0 0] pls_114 zc_114 rfl rfl) ?_
    refine Ops.alc [.slice none 0 0, .int .i64 0, .slice none 0 0] zc_114 ?_
    intro b3
    refine Ops.stB [.slice none 0 0, .int .i64 (m : Int), .slice none 0 0] [.slice none 0 0, .int .i64 (m : Int), .slice none 0 0] sz_114 rfl rfl rfl (one rfl) .here rfl rfl ?_
    refine Ops.to rfl ?_
    refine Cd.seq ?_
    refine Cd.nilRow 126 4 ?_
    refine Cd.nilRow 116 8 ?_
    change Cd _ _ _ _ _ _ _ _ ([row none 0 116 8 (([] : List Prm).length) (([] : List Prm).flatMap ePrm), row none 0 126 4 (([] : List Syn).length) (([] : List Syn).flatMap eSyn), blk b3 114 [.slice none (([] : List Prm).length) 0, .int .i64 (m : Int), .slice none (([] : List Syn).length) 0], blk b1 32 [.slice none 0 0, .int .i64 0, .slice none 0 0]])
    refine Cd.region ?_
    refine Ops.cp en_60 rfl (fun w hs => once_c w) ?_
    refine Ops.cl (α := Nat × Nat) (v := fun x => .func (.func 86) #[] #[.pointer (some ⟨x.1, 0, none⟩), .pointer (some ⟨x.2, 0, none⟩)]) (B := fun x => [blk x.1 116 (ePrm (onceP 0)), blk x.2 161 [.pointer (some ⟨b3, 0, none⟩)]]) en_49 rfl (fun w hs => grow_c b3 (onceP 0) w) ?_
    rintro ⟨pb4, bb5⟩
    refine Ops.q (q_asg rfl) ?_
    refine Ops.to rfl ?_
    refine Cd.seq ?_
    refine Cd.seq ?_
    refine Cd.region ?_
    refine Ops.q (q_mv rfl) ?_
    refine Ops.q (q_mv rfl) ?_
    refine Ops.to rfl ?_
    refine Cd.block ?_
    refine Cd.lp (σ := Nat × Option Addr × Nat) (fun s => s.1 ≤ m) (fun s => [(2, .pointer (some ⟨b1, 0, none⟩)), (4, .pointer (some ⟨b3, 0, none⟩)), (5, .func (.func 86) #[] #[.pointer (some ⟨pb4, 0, none⟩), .pointer (some ⟨bb5, 0, none⟩)]), (18, .int .i64 (m : Int)), (0, .int .i64 (m : Int)), (19, .int .i64 (s.1 : Int))]) (fun s => [blk b3 114 [.slice s.2.1 (((List.range s.1).map fun i : Nat => setTh (onceP 0) ((i : Int) + 1)).length) s.2.2, .int .i64 (m : Int), .slice none (([] : List Syn).length) 0], row s.2.1 s.2.2 116 8 (((List.range s.1).map fun i : Nat => setTh (onceP 0) ((i : Int) + 1)).length) (((List.range s.1).map fun i : Nat => setTh (onceP 0) ((i : Int) + 1)).flatMap ePrm), row none 0 126 4 (([] : List Syn).length) (([] : List Syn).flatMap eSyn), blk pb4 116 (ePrm (onceP 0)), blk bb5 161 [.pointer (some ⟨b3, 0, none⟩)], blk b1 32 [.slice none 0 0, .int .i64 0, .slice none 0 0]]) (fun s => m - s.1) (0, none, 0) (Nat.zero_le _) ⟨rfl, rfl, rfl, rfl, rfl, rfl, trivial⟩ (fun _ hs => by have h1 := ((((((hs.pull (.there (.there (.there (.there (.there .here)))))).pull (.there (.there .here))).pull (.there (.there .here))).pull (.there (.there (.there (.there .here))))).pull (.there (.there (.there (.there .here))))).pull (.there (.there (.there (.there (.there .here)))))); exact h1) ?_
    rintro ⟨kk, pa, pc⟩ hI
    dsimp only at hI
    change Cd _ _ _ _ _ _ _ [(2, .pointer (some ⟨b1, 0, none⟩)), (4, .pointer (some ⟨b3, 0, none⟩)), (5, .func (.func 86) #[] #[.pointer (some ⟨pb4, 0, none⟩), .pointer (some ⟨bb5, 0, none⟩)]), (18, .int .i64 (m : Int)), (0, .int .i64 (m : Int)), (19, .int .i64 (kk : Int))] ([blk b3 114 [.slice pa (((List.range kk).map fun i : Nat => setTh (onceP 0) ((i : Int) + 1)).length) pc, .int .i64 (m : Int), .slice none (([] : List Syn).length) 0], row pa pc 116 8 (((List.range kk).map fun i : Nat => setTh (onceP 0) ((i : Int) + 1)).length) (((List.range kk).map fun i : Nat => setTh (onceP 0) ((i : Int) + 1)).flatMap ePrm), row none 0 126 4 (([] : List Syn).length) (([] : List Syn).flatMap eSyn), blk pb4 116 (ePrm (onceP 0)), blk bb5 161 [.pointer (some ⟨b3, 0, none⟩)], blk b1 32 [.slice none 0 0, .int .i64 0, .slice none 0 0]])
    refine Cd.seq ?_
    refine Cd.region ?_
    by_cases h6 : (kk : Int) < (m : Int)
    · refine Ops.q (q_cmp rfl rfl (c_lt h6)) ?_
      refine Ops.to rfl ?_
      refine Cd.seq ?_
      refine Cd.cond_t rfl ?_
      refine Cd.skipTo rfl ?_
      refine Cd.seq ?_
      refine Cd.block ?_
      refine Cd.seq ?_
      refine Cd.region ?_
      refine Ops.q (q_mv rfl) ?_
      refine Ops.q (q_asg rfl) ?_
      refine Ops.to rfl ?_
      refine Cd.region ?_
      refine Ops.q (q_mv rfl) ?_
      refine Ops.q (q_mv rfl) ?_
      refine Ops.q (q_ar (v := (kk : Int) + 1) rfl rfl (a_add (by omega))) ?_
      refine Ops.lit [.int .i64 ((kk : Int) + 1)] el_26 zsb_3 rfl rfl ⟨by decide, by decide⟩ rfl ?_
      intro b7
      refine Ops.cv (α := Option Addr × Nat) (k := 86) (first := []) (caps := [.pointer (some ⟨pb4, 0, none⟩), .pointer (some ⟨bb5, 0, none⟩)]) (vs := [.slice (some ⟨b7, 0, none⟩) ([((kk : Int) + 1)].length) 1]) (v := fun _ => .tuple #[]) (A' := fun p => [blk b3 114 [.slice p.1 ((((List.range kk).map fun i : Nat => setTh (onceP 0) ((i : Int) + 1)) ++ [((kk : Int) + 1)].map (setTh (onceP 0))).length) p.2, .int .i64 (m : Int), .slice none (([] : List Syn).length) 0], row p.1 p.2 116 8 ((((List.range kk).map fun i : Nat => setTh (onceP 0) ((i : Int) + 1)) ++ [((kk : Int) + 1)].map (setTh (onceP 0))).length) ((((List.range kk).map fun i : Nat => setTh (onceP 0) ((i : Int) + 1)) ++ [((kk : Int) + 1)].map (setTh (onceP 0))).flatMap ePrm), row none 0 126 4 (([] : List Syn).length) (([] : List Syn).flatMap eSyn), blk pb4 116 (ePrm (onceP 0)), blk bb5 161 [.pointer (some ⟨b3, 0, none⟩)], row (some ⟨b7, 0, none⟩) 1 3 1 ([((kk : Int) + 1)].length) ([((kk : Int) + 1)].flatMap eInt), blk b1 32 [.slice none 0 0, .int .i64 0, .slice none 0 0]]) en_86 rfl rfl (fun w hs => grown_c b3 _ _ _ _ ((List.range kk).map fun i : Nat => setTh (onceP 0) ((i : Int) + 1)) _ ([] : List Syn) pb4 bb5 _ _ [((kk : Int) + 1)] _ _ w _ (by simp only [List.length_map, List.length_range, List.length_cons, List.length_nil]; omega) ((((((((hs.pull (.there (.there (.there (.there (.there (.there .here))))))).pull (.there .here)).pull (.there (.there (.there (.there (.there (.there .here))))))).pull (.there (.there (.there (.there (.there (.there .here))))))).pull (.there (.there (.there (.there (.there (.there .here))))))).pull (.there (.there (.there (.there (.there (.there .here))))))).pull (.there (.there (.there (.there (.there (.there .here))))))))) ?_
      rintro ⟨a8, c9⟩
      refine Ops.to rfl ?_
      refine Cd.region ?_
      refine Ops.q (q_ar rfl rfl (a_inc (by omega))) ?_
      refine Ops.q (q_mv rfl) ?_
      refine Ops.rnd ((kk + 1, a8, c9)) rfl (by dsimp only; exact (by omega)) (by dsimp only; omega) ⟨rfl, rfl, rfl, rfl, rfl, rfl, trivial⟩ (fun _ hs => by have h1 := (((((((hs.pull (.there (.there (.there (.there (.there (.there .here))))))).pull (.there (.there (.there (.there (.there .here)))))).pull (.there (.there (.there (.there (.there .here)))))).pull (.there (.there (.there (.there (.there .here)))))).pull (.there (.there (.there (.there (.there .here)))))).pull (.there (.there (.there (.there (.there .here)))))).pull (.there (.there (.there (.there (.there (.there .here))))))).drop; dsimp only; rw [rg_app]; exact h1) 
    · refine Ops.q (q_cmp rfl rfl (c_nlt (by omega))) ?_
      have hkm : kk = m := by omega
      subst hkm
      refine Ops.to rfl ?_
      refine Cd.seq ?_
      refine Cd.cond_f rfl ?_
      refine Cd.exitTo rfl ?_
      refine Cd.seq ?_
      refine Cd.region ?_
      refine Ops.cm (α := Option Addr × Nat) (v := fun _ => .tuple #[]) (A' := fun p => [blk b3 114 [.slice pa (((List.range kk).map fun i : Nat => setTh (onceP 0) ((i : Int) + 1)).length) pc, .int .i64 (kk : Int), .slice p.1 ((([] : List Syn) ++ selvesFrom 0 ((List.range kk).map fun i : Nat => setTh (onceP 0) ((i : Int) + 1)).length).length) p.2], row pa pc 116 8 (((List.range kk).map fun i : Nat => setTh (onceP 0) ((i : Int) + 1)).length) (((List.range kk).map fun i : Nat => setTh (onceP 0) ((i : Int) + 1)).flatMap ePrm), row p.1 p.2 126 4 ((([] : List Syn) ++ selvesFrom 0 ((List.range kk).map fun i : Nat => setTh (onceP 0) ((i : Int) + 1)).length).length) ((([] : List Syn) ++ selvesFrom 0 ((List.range kk).map fun i : Nat => setTh (onceP 0) ((i : Int) + 1)).length).flatMap eSyn), blk pb4 116 (ePrm (onceP 0)), blk bb5 161 [.pointer (some ⟨b3, 0, none⟩)], blk b1 32 [.slice none 0 0, .int .i64 0, .slice none 0 0]]) en_61 rfl (fun w hs => selves_c _ _ _ _ _ ((List.range kk).map fun i : Nat => setTh (onceP 0) ((i : Int) + 1)) _ ([] : List Syn) _ w _ (by simp) (by rw [rg_len]; omega) (((((((hs.pull (.there (.there (.there (.there (.there .here)))))).pull (.there (.there (.there (.there (.there .here)))))).pull (.there (.there (.there (.there (.there .here)))))).pull (.there (.there (.there (.there (.there .here)))))).pull (.there (.there (.there (.there (.there .here)))))).pull (.there (.there (.there (.there (.there .here)))))))) ?_
      rintro ⟨a10, c11⟩
      refine Ops.to rfl ?_
      refine Cd.seq ?_
      refine Cd.seq ?_
      refine Cd.region ?_
      refine Ops.q (q_mv rfl) ?_
      refine Ops.q (q_mv rfl) ?_
      refine Ops.to rfl ?_
      refine Cd.block ?_
      refine Cd.lp (σ := Nat × Option Addr × Nat) (fun s => s.1 ≤ kk) (fun s => [(2, .pointer (some ⟨b1, 0, none⟩)), (4, .pointer (some ⟨b3, 0, none⟩)), (29, .int .i64 (kk : Int)), (0, .int .i64 (kk : Int)), (30, .int .i64 (s.1 : Int))]) (fun s => [blk b3 114 [.slice pa (((List.range kk).map fun i : Nat => setTh (onceP 0) ((i : Int) + 1)).length) pc, .int .i64 (kk : Int), .slice s.2.1 (((([] : List Syn) ++ selvesFrom 0 ((List.range kk).map fun i : Nat => setTh (onceP 0) ((i : Int) + 1)).length) ++ (List.range s.1).flatMap (sortTo kk)).length) s.2.2], row pa pc 116 8 (((List.range kk).map fun i : Nat => setTh (onceP 0) ((i : Int) + 1)).length) (((List.range kk).map fun i : Nat => setTh (onceP 0) ((i : Int) + 1)).flatMap ePrm), row s.2.1 s.2.2 126 4 (((([] : List Syn) ++ selvesFrom 0 ((List.range kk).map fun i : Nat => setTh (onceP 0) ((i : Int) + 1)).length) ++ (List.range s.1).flatMap (sortTo kk)).length) (((([] : List Syn) ++ selvesFrom 0 ((List.range kk).map fun i : Nat => setTh (onceP 0) ((i : Int) + 1)).length) ++ (List.range s.1).flatMap (sortTo kk)).flatMap eSyn), blk b1 32 [.slice none 0 0, .int .i64 0, .slice none 0 0]]) (fun s => kk - s.1) (0, a10, c11) (Nat.zero_le _) ⟨rfl, rfl, rfl, rfl, rfl, trivial⟩ (fun _ hs => by have h1 := ((((((hs.pull (.there (.there (.there (.there (.there .here)))))).pull (.there (.there (.there .here)))).pull (.there (.there (.there .here)))).pull (.there (.there (.there .here)))).pull (.there (.there (.there (.there .here))))).drop.pull (.there (.there (.there (.there .here))))).drop; dsimp only; rw [show (([] : List Syn) ++ selvesFrom 0 ((List.range kk).map fun i : Nat => setTh (onceP 0) ((i : Int) + 1)).length) ++ (List.range 0).flatMap (sortTo kk) = (([] : List Syn) ++ selvesFrom 0 ((List.range kk).map fun i : Nat => setTh (onceP 0) ((i : Int) + 1)).length) from List.append_nil _]; exact h1) ?_
      rintro ⟨jj, qa, qc⟩ hI
      dsimp only at hI
      change Cd _ _ _ _ _ _ _ [(2, .pointer (some ⟨b1, 0, none⟩)), (4, .pointer (some ⟨b3, 0, none⟩)), (29, .int .i64 (kk : Int)), (0, .int .i64 (kk : Int)), (30, .int .i64 (jj : Int))] ([blk b3 114 [.slice pa (((List.range kk).map fun i : Nat => setTh (onceP 0) ((i : Int) + 1)).length) pc, .int .i64 (kk : Int), .slice qa (((([] : List Syn) ++ selvesFrom 0 ((List.range kk).map fun i : Nat => setTh (onceP 0) ((i : Int) + 1)).length) ++ (List.range jj).flatMap (sortTo kk)).length) qc], row pa pc 116 8 (((List.range kk).map fun i : Nat => setTh (onceP 0) ((i : Int) + 1)).length) (((List.range kk).map fun i : Nat => setTh (onceP 0) ((i : Int) + 1)).flatMap ePrm), row qa qc 126 4 (((([] : List Syn) ++ selvesFrom 0 ((List.range kk).map fun i : Nat => setTh (onceP 0) ((i : Int) + 1)).length) ++ (List.range jj).flatMap (sortTo kk)).length) (((([] : List Syn) ++ selvesFrom 0 ((List.range kk).map fun i : Nat => setTh (onceP 0) ((i : Int) + 1)).length) ++ (List.range jj).flatMap (sortTo kk)).flatMap eSyn), blk b1 32 [.slice none 0 0, .int .i64 0, .slice none 0 0]])
      refine Cd.seq ?_
      refine Cd.region ?_
      by_cases hj : (jj : Int) < (kk : Int)
      · refine Ops.q (q_cmp rfl rfl (c_lt hj)) ?_
        refine Ops.to rfl ?_
        refine Cd.seq ?_
        refine Cd.cond_t rfl ?_
        refine Cd.skipTo rfl ?_
        refine Cd.seq ?_
        refine Cd.block ?_
        refine Cd.seq ?_
        refine Cd.region ?_
        refine Ops.q (q_mv rfl) ?_
        refine Ops.q (q_asg rfl) ?_
        refine Ops.to rfl ?_
        refine Cd.seq ?_
        refine Cd.region ?_
        refine Ops.q (q_mv rfl) ?_
        refine Ops.q (q_mv rfl) ?_
        refine Ops.to rfl ?_
        refine Cd.block ?_
        refine Cd.lp (σ := Nat × Option Addr × Nat) (fun s => s.1 ≤ kk) (fun s => [(2, .pointer (some ⟨b1, 0, none⟩)), (4, .pointer (some ⟨b3, 0, none⟩)), (29, .int .i64 (kk : Int)), (0, .int .i64 (kk : Int)), (30, .int .i64 (jj : Int)), (7, .int .i64 (jj : Int)), (33, .int .i64 (kk : Int)), (34, .int .i64 (s.1 : Int))]) (fun s => [blk b3 114 [.slice pa (((List.range kk).map fun i : Nat => setTh (onceP 0) ((i : Int) + 1)).length) pc, .int .i64 (kk : Int), .slice s.2.1 ((((([] : List Syn) ++ selvesFrom 0 ((List.range kk).map fun i : Nat => setTh (onceP 0) ((i : Int) + 1)).length) ++ (List.range jj).flatMap (sortTo kk)) ++ (List.range s.1).map (fun i : Nat => (⟨-1 - (i : Int), (jj : Int), 1, 1⟩ : Syn))).length) s.2.2], row pa pc 116 8 (((List.range kk).map fun i : Nat => setTh (onceP 0) ((i : Int) + 1)).length) (((List.range kk).map fun i : Nat => setTh (onceP 0) ((i : Int) + 1)).flatMap ePrm), row s.2.1 s.2.2 126 4 ((((([] : List Syn) ++ selvesFrom 0 ((List.range kk).map fun i : Nat => setTh (onceP 0) ((i : Int) + 1)).length) ++ (List.range jj).flatMap (sortTo kk)) ++ (List.range s.1).map (fun i : Nat => (⟨-1 - (i : Int), (jj : Int), 1, 1⟩ : Syn))).length) ((((([] : List Syn) ++ selvesFrom 0 ((List.range kk).map fun i : Nat => setTh (onceP 0) ((i : Int) + 1)).length) ++ (List.range jj).flatMap (sortTo kk)) ++ (List.range s.1).map (fun i : Nat => (⟨-1 - (i : Int), (jj : Int), 1, 1⟩ : Syn))).flatMap eSyn), blk b1 32 [.slice none 0 0, .int .i64 0, .slice none 0 0]]) (fun s => kk - s.1) (0, qa, qc) (Nat.zero_le _) ⟨rfl, rfl, rfl, rfl, rfl, rfl, rfl, rfl, trivial⟩ (fun _ hs => by have h1 := ((((hs.pull (.there (.there (.there .here)))).pull (.there (.there (.there .here)))).pull (.there (.there (.there .here)))).pull (.there (.there (.there .here)))); dsimp only; rw [show ((([] : List Syn) ++ selvesFrom 0 ((List.range kk).map fun i : Nat => setTh (onceP 0) ((i : Int) + 1)).length) ++ (List.range jj).flatMap (sortTo kk)) ++ (List.range 0).map (fun i : Nat => (⟨-1 - (i : Int), (jj : Int), 1, 1⟩ : Syn)) = ((([] : List Syn) ++ selvesFrom 0 ((List.range kk).map fun i : Nat => setTh (onceP 0) ((i : Int) + 1)).length) ++ (List.range jj).flatMap (sortTo kk)) from List.append_nil _]; exact h1) ?_
        rintro ⟨ii, ra, rc⟩ hI
        dsimp only at hI
        change Cd _ _ _ _ _ _ _ [(2, .pointer (some ⟨b1, 0, none⟩)), (4, .pointer (some ⟨b3, 0, none⟩)), (29, .int .i64 (kk : Int)), (0, .int .i64 (kk : Int)), (30, .int .i64 (jj : Int)), (7, .int .i64 (jj : Int)), (33, .int .i64 (kk : Int)), (34, .int .i64 (ii : Int))] ([blk b3 114 [.slice pa (((List.range kk).map fun i : Nat => setTh (onceP 0) ((i : Int) + 1)).length) pc, .int .i64 (kk : Int), .slice ra ((((([] : List Syn) ++ selvesFrom 0 ((List.range kk).map fun i : Nat => setTh (onceP 0) ((i : Int) + 1)).length) ++ (List.range jj).flatMap (sortTo kk)) ++ (List.range ii).map (fun i : Nat => (⟨-1 - (i : Int), (jj : Int), 1, 1⟩ : Syn))).length) rc], row pa pc 116 8 (((List.range kk).map fun i : Nat => setTh (onceP 0) ((i : Int) + 1)).length) (((List.range kk).map fun i : Nat => setTh (onceP 0) ((i : Int) + 1)).flatMap ePrm), row ra rc 126 4 ((((([] : List Syn) ++ selvesFrom 0 ((List.range kk).map fun i : Nat => setTh (onceP 0) ((i : Int) + 1)).length) ++ (List.range jj).flatMap (sortTo kk)) ++ (List.range ii).map (fun i : Nat => (⟨-1 - (i : Int), (jj : Int), 1, 1⟩ : Syn))).length) ((((([] : List Syn) ++ selvesFrom 0 ((List.range kk).map fun i : Nat => setTh (onceP 0) ((i : Int) + 1)).length) ++ (List.range jj).flatMap (sortTo kk)) ++ (List.range ii).map (fun i : Nat => (⟨-1 - (i : Int), (jj : Int), 1, 1⟩ : Syn))).flatMap eSyn), blk b1 32 [.slice none 0 0, .int .i64 0, .slice none 0 0]])
        refine Cd.seq ?_
        refine Cd.region ?_
        by_cases hi : (ii : Int) < (kk : Int)
        · refine Ops.q (q_cmp rfl rfl (c_lt hi)) ?_
          refine Ops.to rfl ?_
          refine Cd.seq ?_
          refine Cd.cond_t rfl ?_
          refine Cd.skipTo rfl ?_
          refine Cd.seq ?_
          refine Cd.block ?_
          refine Cd.seq ?_
          refine Cd.region ?_
          refine Ops.q (q_mv rfl) ?_
          refine Ops.q (q_asg rfl) ?_
          refine Ops.to rfl ?_
          refine Cd.region ?_
          refine Ops.q (q_mv rfl) ?_
          refine Ops.q (q_mv rfl) ?_
          refine Ops.cm (α := Option Addr × Nat) (v := fun _ => .tuple #[]) (A' := fun p => [blk b3 114 [.slice pa (((List.range kk).map fun i : Nat => setTh (onceP 0) ((i : Int) + 1)).length) pc, .int .i64 (kk : Int), .slice p.1 (((((([] : List Syn) ++ selvesFrom 0 ((List.range kk).map fun i : Nat => setTh (onceP 0) ((i : Int) + 1)).length) ++ (List.range jj).flatMap (sortTo kk)) ++ (List.range ii).map (fun i : Nat => (⟨-1 - (i : Int), (jj : Int), 1, 1⟩ : Syn))) ++ [(⟨-1 - (ii : Int), (jj : Int), 1, 1⟩ : Syn)]).length) p.2], row pa pc 116 8 (((List.range kk).map fun i : Nat => setTh (onceP 0) ((i : Int) + 1)).length) (((List.range kk).map fun i : Nat => setTh (onceP 0) ((i : Int) + 1)).flatMap ePrm), row p.1 p.2 126 4 (((((([] : List Syn) ++ selvesFrom 0 ((List.range kk).map fun i : Nat => setTh (onceP 0) ((i : Int) + 1)).length) ++ (List.range jj).flatMap (sortTo kk)) ++ (List.range ii).map (fun i : Nat => (⟨-1 - (i : Int), (jj : Int), 1, 1⟩ : Syn))) ++ [(⟨-1 - (ii : Int), (jj : Int), 1, 1⟩ : Syn)]).length) (((((([] : List Syn) ++ selvesFrom 0 ((List.range kk).map fun i : Nat => setTh (onceP 0) ((i : Int) + 1)).length) ++ (List.range jj).flatMap (sortTo kk)) ++ (List.range ii).map (fun i : Nat => (⟨-1 - (i : Int), (jj : Int), 1, 1⟩ : Syn))) ++ [(⟨-1 - (ii : Int), (jj : Int), 1, 1⟩ : Syn)]).flatMap eSyn), blk b1 32 [.slice none 0 0, .int .i64 0, .slice none 0 0]]) en_51 rfl (fun w hs => feed_c _ _ _ _ _ ((List.range kk).map fun i : Nat => setTh (onceP 0) ((i : Int) + 1)) _ (((([] : List Syn) ++ selvesFrom 0 ((List.range kk).map fun i : Nat => setTh (onceP 0) ((i : Int) + 1)).length) ++ (List.range jj).flatMap (sortTo kk)) ++ (List.range ii).map (fun i : Nat => (⟨-1 - (i : Int), (jj : Int), 1, 1⟩ : Syn))) (ii : Int) (jj : Int) 1 1 _ w _ (sort_small hm (by omega) (by omega)) (by omega) (((((hs.pull (.there (.there (.there .here)))).pull (.there (.there (.there .here)))).pull (.there (.there (.there .here)))).pull (.there (.there (.there .here)))))) ?_
          rintro ⟨a12, c13⟩
          refine Ops.to rfl ?_
          refine Cd.region ?_
          refine Ops.q (q_ar rfl rfl (a_inc (by omega))) ?_
          refine Ops.q (q_mv rfl) ?_
          refine Ops.rnd ((ii + 1, a12, c13)) rfl (by dsimp only; exact (by omega)) (by dsimp only; omega) ⟨rfl, rfl, rfl, rfl, rfl, rfl, rfl, rfl, trivial⟩ (fun _ hs => by have h1 := ((((hs.pull (.there (.there (.there .here)))).pull (.there (.there (.there .here)))).pull (.there (.there (.there .here)))).pull (.there (.there (.there .here)))); dsimp only; rw [rg_app, ← List.append_assoc]; exact h1) 
        · refine Ops.q (q_cmp rfl rfl (c_nlt (by omega))) ?_
          refine Ops.to rfl ?_
          refine Cd.seq ?_
          refine Cd.cond_f rfl ?_
          refine Cd.exitTo rfl ?_
          refine Cd.region ?_
          refine Ops.q (q_ar rfl rfl (a_inc (by omega))) ?_
          refine Ops.q (q_mv rfl) ?_
          refine Ops.rnd ((jj + 1, ra, rc)) rfl (by dsimp only; exact (by omega)) (by dsimp only; omega) ⟨rfl, rfl, rfl, rfl, rfl, trivial⟩ (fun _ hs => by have h1 := ((((hs.pull (.there (.there (.there .here)))).pull (.there (.there (.there .here)))).pull (.there (.there (.there .here)))).pull (.there (.there (.there .here)))); have hik : ii = kk := (by omega); rw [hik] at h1; dsimp only; rw [rf_app, ← List.append_assoc]; exact h1) 
      · refine Ops.q (q_cmp rfl rfl (c_nlt (by omega))) ?_
        refine Ops.to rfl ?_
        refine Cd.seq ?_
        refine Cd.cond_f rfl ?_
        refine Cd.exitTo rfl ?_
        refine Cd.seq ?_
        refine Cd.region ?_
        refine Ops.q (q_fa fo_114_0 rfl) ?_
        refine Ops.q (q_ldBN [.slice pa (((List.range kk).map fun i : Nat => setTh (onceP 0) ((i : Int) + 1)).length) pc, .int .i64 (kk : Int), .slice qa (((([] : List Syn) ++ selvesFrom 0 ((List.range kk).map fun i : Nat => setTh (onceP 0) ((i : Int) + 1)).length) ++ (List.range jj).flatMap (sortTo kk)).length) qc] isA_32 sz_32 rfl .here rfl) ?_
        refine Ops.stB [.slice pa (((List.range kk).map fun i : Nat => setTh (onceP 0) ((i : Int) + 1)).length) pc, .int .i64 (kk : Int), .slice qa (((([] : List Syn) ++ selvesFrom 0 ((List.range kk).map fun i : Nat => setTh (onceP 0) ((i : Int) + 1)).length) ++ (List.range jj).flatMap (sortTo kk)).length) qc] [.slice pa (((List.range kk).map fun i : Nat => setTh (onceP 0) ((i : Int) + 1)).length) pc, .int .i64 (kk : Int), .slice qa (((([] : List Syn) ++ selvesFrom 0 ((List.range kk).map fun i : Nat => setTh (onceP 0) ((i : Int) + 1)).length) ++ (List.range jj).flatMap (sortTo kk)).length) qc] sz_32 rfl rfl rfl (one rfl) (.there (.there (.there .here))) rfl rfl ?_
        refine Ops.q (q_asg rfl) ?_
        refine Ops.to rfl ?_
        refine Cd.rt (fn := Try.f24) [.agg [.slice pa (((List.range kk).map fun i : Nat => setTh (onceP 0) ((i : Int) + 1)).length) pc, .int .i64 (kk : Int), .slice qa (((([] : List Syn) ++ selvesFrom 0 ((List.range kk).map fun i : Nat => setTh (onceP 0) ((i : Int) + 1)).length) ++ (List.range jj).flatMap (sortTo kk)).length) qc].toArray, .int .i64 0] (by with_reducible repeat (first | exact rq_here | apply rq_then | apply rq_block)) rfl ⟨⟨_, _, rfl, fun _ hs => run_loadN isA_32 sz_32 (fun o u hu => Sat.atB (.there (.there (.there .here))) (by rw [Nat.zero_add]; exact hu) hs)⟩, rfl, trivial⟩ ?_
        intro w' hs'
        have hjk : jj = kk := by omega
        subst hjk
        have hP : sortP (jj : Int) = .ok ⟨((List.range jj).map fun i : Nat => setTh (onceP 0) ((i : Int) + 1)), (jj : Int), ((([] : List Syn) ++ selvesFrom 0 ((List.range jj).map fun i : Nat => setTh (onceP 0) ((i : Int) + 1)).length) ++ (List.range jj).flatMap (sortTo jj))⟩ := by unfold sortP; rw [if_pos h2, Int.toNat_natCast, rg_len, List.nil_append]; rfl
        rw [hP]
        exact ⟨(pa, pc), (qa, qc), rfl, ((((hs'.pull (.there (.there .here))).pull (.there (.there .here))).pull (.there (.there .here))).drop.pull (.there (.there .here))).drop⟩
  · refine Ops.cp en_57 rfl (fun w hs => dF (in_c _ _ _ w) h2) ?_
    refine Ops.q (q_not rfl) ?_
    refine Ops.to rfl ?_
    refine Cd.cond_t rfl ?_
    refine Cd.seq ?_
    refine Cd.region ?_
    refine Ops.q (q_bld [.slice none 0 0, .int .i64 0, .slice none 0 0] pls_32 zc_32 rfl rfl) ?_
    refine Ops.stB [.slice none 0 0, .int .i64 0, .slice none 0 0] [.slice none 0 0, .int .i64 0, .slice none 0 0] sz_32 rfl rfl rfl (one rfl) .here rfl rfl ?_
    refine Ops.q (q_asg rfl) ?_
    refine Ops.to rfl ?_
    refine Cd.rt (fn := Try.f24) [.agg [.slice none 0 0, .int .i64 0, .slice none 0 0].toArray, .int .i64 3] (by with_reducible repeat (first | exact rq_here | apply rq_then | apply rq_block)) rfl ⟨⟨_, _, rfl, fun _ hs => run_loadN isA_32 sz_32 (fun o u hu => Sat.atB .here (by rw [Nat.zero_add]; exact hu) hs)⟩, rfl, trivial⟩ ?_
    intro w' hs'
    rw [show sortP n = .error 3 by unfold sortP; rw [if_neg h2]]
    exact ⟨rfl, hs'.none⟩
end Go.Proofs.Ytilcdghliigngaa
namespace Go.Proofs.Ytilcdghliigngaa
open Go.RowKit Go.Proofs.YtilcdghliigngaaGl Go.Proofs.YtilcdghliigngaaPm
set_option linter.unusedVariables false
set_option linter.unusedSimpArgs false
end Go.Proofs.Ytilcdghliigngaa
namespace Go.Proofs.YtilcdghliigngaaGl
set_option linter.unusedVariables false
set_option linter.unusedSimpArgs false
open Go.RowKit
def intFs (P : Program) : Nat → List Field → Bool
  | _, [] => true
  | i, f :: fs => f.name != "_" && f.offset == i && (iK P f.type).isSome && isA P f.type == some false && intFs P (i + 1) fs
def intS (P : Program) (T : TypeId) : Option Nat :=
  match P.underlying T with
  | some (.struct fs) => if (!P.stoodInHeld T && !P.eqGuardType P.depth T && intFs P 0 fs.toList) = true then some fs.size else none
  | _ => none
def ints (xs : List Int) : List Value := xs.map (.int .i64)
section
variable {P : Program} {r : Option Nat} {ops : Array Oper} {Q : Exit → Act → World → Prop} {w0 : World} {n : Nat} {D : List Deferred} {rest : List Oper} {L : Env} {A : List Atom}
theorem run_part1 {t : TypeId} {cs : Array Value} {o : Nat} {v : Value} {w : World} (h : isA P t = some false) (hv : cs[o]? = some v) : (part t cs o).run P w = .ok v w := by
  simp only [part, Sem.run_bind, run_isAgg h, Result.andThen_ok, Bool.false_eq_true, if_false, hv, Sem.run_pure]
theorem run_eqInts (d : Nat) (w : World) (vs us : List Int) : ∀ (fs : List Field) (i : Nat), intFs P i fs = true → i + fs.length = vs.length → us.length = vs.length →
    (Op.eqFields (d + 1) (ints vs).toArray (ints us).toArray fs).run P w = .ok (vs.drop i == us.drop i) w
  | [], i, _, h1, h2 => by
    have e1 : vs.drop i = [] := List.drop_eq_nil_of_le (by simp at h1; omega)
    have e2 : us.drop i = [] := List.drop_eq_nil_of_le (by simp at h1; omega)
    rw [e1, e2]
    simp [Op.eqFields]
  | f :: fs, i, h, h1, h2 => by
    simp only [intFs, Bool.and_eq_true, beq_iff_eq, bne_iff_ne, ne_eq] at h
    obtain ⟨⟨⟨⟨hn, ho⟩, hk⟩, ha⟩, hr⟩ := h
    obtain ⟨k, hk⟩ := Option.isSome_iff_exists.1 hk
    simp only [List.length_cons] at h1
    obtain ⟨a, hva⟩ : ∃ a, vs[i]? = some a := ⟨_, List.getElem?_eq_getElem (by omega)⟩
    obtain ⟨b, hub⟩ : ∃ b, us[i]? = some b := ⟨_, List.getElem?_eq_getElem (by omega)⟩
    have p1 : ∀ w, (part f.type (ints vs).toArray f.offset).run P w = .ok (.int .i64 a) w := fun w => run_part1 ha (by rw [ho]; simp [ints, hva])
    have p2 : ∀ w, (part f.type (ints us).toArray f.offset).run P w = .ok (.int .i64 b) w := fun w => run_part1 ha (by rw [ho]; simp [ints, hub])
    have p3 := run_equalIn_int (P := P) w d f.type .i64 k a b (iK_u hk)
    have hd : ∀ {xs : List Int} {c : Int}, xs[i]? = some c → xs.drop i = c :: xs.drop (i + 1) := fun {xs c} h => by
      obtain ⟨hk, he⟩ := List.getElem?_eq_some_iff.1 h
      rw [List.drop_eq_getElem_cons hk, he]
    have ih := run_eqInts d w vs us fs (i + 1) hr (by omega) h2
    simp only [Op.eqFields, hn, ne_eq, not_false_eq_true, if_true, Sem.run_bind, p1, p2, p3, Result.andThen_ok]
    rw [hd hva, hd hub]
    by_cases hab : a = b
    · subst hab
      simp [ih]
    · have : (a == b) = false := by simp [hab]
      simp [this]
theorem run_eqS {T : TypeId} {vs us : List Int} {w : World} (hT : intS P T = some vs.length) (hl : us.length = vs.length) : P.eqGuardType P.depth T = false ∧ (Op.equalIn 10000 T (.agg (ints vs).toArray) (.agg (ints us).toArray)).run P w = .ok (vs == us) w := by
  unfold intS at hT
  cases hu : P.underlying T with
  | none => rw [hu] at hT; cases hT
  | some d =>
    rw [hu] at hT
    cases d <;> try (cases hT; done)
    rename_i fs
    simp only [] at hT
    split at hT
    · rename_i hc
      simp only [Bool.and_eq_true, Bool.not_eq_true'] at hc
      obtain ⟨⟨h1, h2⟩, h3⟩ := hc
      have hf : P.fieldsOf T = fs := by simp [Program.fieldsOf, hu]
      have h4 := run_equalIn_struct (P := P) w 9999 T (ints vs).toArray (ints us).toArray (by rw [hf]; exact hu) h1
      have h5 := run_eqInts (P := P) 9998 w vs us fs.toList 0 h3 (by have := Option.some.inj hT; simp; omega) hl
      rw [hf] at h4
      refine ⟨h2, ?_⟩
      rw [h4, h5]; simp
    · cases hT
theorem q_neS {T tz : TypeId} {x y : Operand} (vs us : List Int) {v u : Value} (hT : intS P T = some vs.length) (hx : ev L x = some v) (hy : ev L y = some u) (hv : v = .agg (ints vs).toArray) (hu : u = .agg (ints us).toArray) (hl : us.length = vs.length) : Qv P w0 n D L A (.binOp .neq T x y tz) (.bool (vs != us)) := fun ac w hk _ _ _ _ _ _ => ⟨by
    subst hv; subst hu
    obtain ⟨h1, h2⟩ := run_eqS (w := w) hT hl
    simp only [execOp, hk.ev hx, hk.ev hy, Sem.run_bind, run_eqGuard_agg w .neq T x y _ _ h1, Result.andThen_ok, run_neq_struct, h2, Sem.run_pure]
    rfl, rfl⟩
theorem q_eqS {T tz : TypeId} {x y : Operand} (vs us : List Int) {v u : Value} (hT : intS P T = some vs.length) (hx : ev L x = some v) (hy : ev L y = some u) (hv : v = .agg (ints vs).toArray) (hu : u = .agg (ints us).toArray) (hl : us.length = vs.length) : Qv P w0 n D L A (.binOp .eql T x y tz) (.bool (vs == us)) := fun ac w hk _ _ _ _ _ _ => ⟨by
    subst hv; subst hu
    obtain ⟨h1, h2⟩ := run_eqS (w := w) hT hl
    simp only [execOp, hk.ev hx, hk.ev hy, Sem.run_bind, run_eqGuard_agg w .eql T x y _ _ h1, Result.andThen_ok, run_eql_struct, h2, Sem.run_pure], rfl⟩
end
end Go.Proofs.YtilcdghliigngaaGl
namespace Go.Proofs.Ytilcdghliigngaa
open Go.RowKit Go.Proofs.YtilcdghliigngaaGl Go.Proofs.YtilcdghliigngaaPm
set_option linter.unusedVariables false
set_option linter.unusedSimpArgs false
theorem intS_88 : intS Try.prog 88 = some 2 := by kernel_rfl
section
variable {P : Program} {w0 : World} {n : Nat} {D : List Deferred} {L : Env} {A : List Atom}
theorem q_neF {T tz : TypeId} {x y : Operand} (vs us : List Int) {v u : Value} (hT : intS P T = some vs.length) (hx : ev L x = some v) (hy : ev L y = some u) (hv : v = .agg (ints vs).toArray) (hu : u = .agg (ints us).toArray) (hl : us.length = vs.length) (h : vs = us) : Qv P w0 n D L A (.binOp .neq T x y tz) (.bool false) := by
  have := q_neS (P := P) (w0 := w0) (n := n) (D := D) (A := A) (tz := tz) vs us hT hx hy hv hu hl
  rwa [show (vs != us) = false by simp [h]] at this
theorem q_neT {T tz : TypeId} {x y : Operand} (vs us : List Int) {v u : Value} (hT : intS P T = some vs.length) (hx : ev L x = some v) (hy : ev L y = some u) (hv : v = .agg (ints vs).toArray) (hu : u = .agg (ints us).toArray) (hl : us.length = vs.length) (h : vs ≠ us) : Qv P w0 n D L A (.binOp .neq T x y tz) (.bool true) := by
  have := q_neS (P := P) (w0 := w0) (n := n) (D := D) (A := A) (tz := tz) vs us hT hx hy hv hu hl
  rwa [show (vs != us) = true by simp [h]] at this
end
theorem take_step {α : Type} {xs ys : List α} {k : Nat} {x y : α} (h : xs.take k = ys.take k) (hx : xs[k]? = some x) (hy : ys[k]? = some y) (e : x = y) : xs.take (k + 1) = ys.take (k + 1) := by
  rw [List.take_add_one, List.take_add_one, h, hx, hy, e]
theorem take_end {α : Type} {xs ys : List α} {k : Nat} (h : xs.take k = ys.take k) (h1 : xs.length ≤ k) (h2 : ys.length ≤ k) : xs = ys := by
  rwa [List.take_of_length_le h1, List.take_of_length_le h2] at h
theorem get_ne {α : Type} {xs ys : List α} {k : Nat} {x y : α} (hx : xs[k]? = some x) (hy : ys[k]? = some y) (e : ¬ x = y) : xs ≠ ys := by
  rintro rfl; rw [hx] at hy; exact e (Option.some.inj hy)
theorem len_ne {α : Type} {xs ys : List α} (h : ¬ (xs.length : Int) = (ys.length : Int)) : xs ≠ ys := by
  rintro rfl; exact h rfl
theorem numbers_c (xa ya : Option Addr) (xc yc : Nat) (xs ys : List Int) (w : World) (hX : RoL w xa eInt xs) (hY : RoL w ya eInt ys) (hl : xs.length ≤ 9223372036854775807) : Calls Try.prog 23 [.slice xa xs.length xc, .slice ya ys.length yc].toArray w fun e w' => e = .returned (.bool (decide (xs = ys))) ∧ Sat w w' [] := by
  refine fstart Try.func23 rfl rfl (Sat.nil w) ?_
  refine Cd.seq ?_
  refine Cd.region ?_
  refine Ops.q (q_asg rfl) ?_
  refine Ops.to rfl ?_
  refine Cd.seq ?_
  refine Cd.seq ?_
  refine Cd.region ?_
  refine Ops.q (q_mv rfl) ?_
  refine Ops.q (q_len esz_26 rfl) ?_
  refine Ops.q (q_mv rfl) ?_
  refine Ops.q (q_len esz_26 rfl) ?_
  by_cases h1 : (xs.length : Int) = (ys.length : Int)
  · refine Ops.q (q_cmp rfl rfl (c_nne h1)) ?_
    have hlen : xs.length = ys.length := by omega
    refine Ops.to rfl ?_
    refine Cd.cond_f rfl ?_
    refine Cd.skipTo rfl ?_
    refine Cd.seq ?_
    refine Cd.seq ?_
    refine Cd.region ?_
    refine Ops.q (q_asg rfl) ?_
    refine Ops.to rfl ?_
    refine Cd.block ?_
    refine Cd.lp (σ := Nat) (fun k => k ≤ xs.length ∧ xs.take k = ys.take k) (fun k => [(0, .slice xa xs.length xc), (1, .slice ya ys.length yc), (5, .int .i64 (k : Int))]) (fun k => []) (fun k => xs.length - k) 0 ⟨Nat.zero_le _, rfl⟩ ⟨rfl, rfl, rfl, trivial⟩ (fun _ hs => hs) ?_
    intro k hI
    have hI1 := hI.1
    refine Cd.seq ?_
    refine Cd.seq ?_
    refine Cd.region ?_
    refine Ops.q (q_mv rfl) ?_
    refine Ops.q (q_mv rfl) ?_
    refine Ops.q (q_len esz_26 rfl) ?_
    by_cases hk : (k : Int) < (xs.length : Int)
    · refine Ops.q (q_cmp rfl rfl (c_lt hk)) ?_
      obtain ⟨x2, hx3⟩ : ∃ x, xs[k]? = some x := ⟨_, List.getElem?_eq_getElem (by omega)⟩
      obtain ⟨ab4, ao5, rfl⟩ := RoL.pos hX eInt_len hx3
      obtain ⟨x6, hx7⟩ : ∃ x, ys[k]? = some x := ⟨_, List.getElem?_eq_getElem (by omega)⟩
      obtain ⟨ab8, ao9, rfl⟩ := RoL.pos hY eInt_len hx7
      refine Ops.to rfl ?_
      refine Cd.cond_t rfl ?_
      refine Cd.skipTo rfl ?_
      refine Cd.seq ?_
      refine Cd.block ?_
      refine Cd.seq ?_
      refine Cd.draw rfl (by kernel_rfl) .nil ?_
      intro F10 St11 hP12 hF13 hR14
      refine Dr.q (i := 0) hP12 rfl (by kernel_rfl) (q_mv rfl) ?_
      refine Dr.q (i := 1) hP12 rfl (by kernel_rfl) (q_mv rfl) ?_
      refine Dr.q (i := 2) hP12 rfl (by kernel_rfl) (q_ix (k := k) esz_26 rfl rfl (by omega)) ?_
      refine Dr.q (i := 3) hP12 rfl (by kernel_rfl) (q_ldR isA_3 rfl (hX.at0 eInt_len hx3 rfl)) ?_
      refine Dr.q (i := 4) hP12 rfl (by kernel_rfl) (q_mv rfl) ?_
      refine Dr.q (i := 5) hP12 rfl (by kernel_rfl) (q_mv rfl) ?_
      refine Dr.q (i := 6) hP12 rfl (by kernel_rfl) (q_ix (k := k) esz_26 rfl rfl (by omega)) ?_
      refine Dr.q (i := 7) hP12 rfl (by kernel_rfl) (q_ldR isA_3 rfl (hY.at0 eInt_len hx7 rfl)) ?_
      by_cases hc : x2 = x6
      · refine Dr.q (i := 8) hP12 rfl (by kernel_rfl) (q_cmp rfl rfl (c_nne hc)) ?_
        refine Dr.tail 9 (by kernel_rfl) ?_
        refine Ops.sat ?_ (fun _ hs => hR14 .here hs)
        refine Ops.to rfl ?_
        refine Cd.cond_f rfl ?_
        refine Cd.skipTo rfl ?_
        refine Cd.region ?_
        refine Ops.q (q_mv rfl) ?_
        refine Ops.q (q_ar rfl rfl (a_inc (by omega))) ?_
        refine Ops.q (q_asg rfl) ?_
        refine Ops.rnd (k + 1) rfl (⟨by omega, take_step hI.2 hx3 hx7 hc⟩) (by omega) ⟨rfl, rfl, rfl, trivial⟩ (fun _ hs => hs) 
      · refine Dr.q (i := 8) hP12 rfl (by kernel_rfl) (q_cmp rfl rfl (c_ne hc)) ?_
        refine Dr.tail 9 (by kernel_rfl) ?_
        refine Ops.sat ?_ (fun _ hs => hR14 .here hs)
        refine Ops.to rfl ?_
        refine Cd.cond_t rfl ?_
        refine Cd.seq ?_
        refine Cd.region ?_
        refine Ops.q (q_asg rfl) ?_
        refine Ops.to rfl ?_
        refine Cd.rt (fn := Try.f23) [.bool false] (by with_reducible repeat (first | exact rq_here | apply rq_then | apply rq_block)) rfl ⟨rfl, trivial⟩ ?_
        intro w' hs'
        exact ⟨ebool (by simpa using get_ne hx3 hx7 hc), hs'.none⟩
    · refine Ops.q (q_cmp rfl rfl (c_nlt (by omega))) ?_
      refine Ops.to rfl ?_
      refine Cd.cond_f rfl ?_
      refine Cd.exitTo rfl ?_
      refine Cd.seq ?_
      refine Cd.region ?_
      refine Ops.q (q_asg rfl) ?_
      refine Ops.to rfl ?_
      refine Cd.rt (fn := Try.f23) [.bool true] (by with_reducible repeat (first | exact rq_here | apply rq_then | apply rq_block)) rfl ⟨rfl, trivial⟩ ?_
      intro w' hs'
      exact ⟨ebool (by simpa using take_end hI.2 (by omega) (by omega)), hs'.none⟩
  · refine Ops.q (q_cmp rfl rfl (c_ne h1)) ?_
    refine Ops.to rfl ?_
    refine Cd.cond_t rfl ?_
    refine Cd.seq ?_
    refine Cd.region ?_
    refine Ops.q (q_asg rfl) ?_
    refine Ops.to rfl ?_
    refine Cd.rt (fn := Try.f23) [.bool false] (by with_reducible repeat (first | exact rq_here | apply rq_then | apply rq_block)) rfl ⟨rfl, trivial⟩ ?_
    intro w' hs'
    exact ⟨ebool (by simpa using len_ne h1), hs'.none⟩
theorem events_c (xa ya : Option Addr) (xc yc : Nat) (xs ys : List Evt) (w : World) (hX : RoL w xa eEvt xs) (hY : RoL w ya eEvt ys) (hl : xs.length ≤ 9223372036854775807) : Calls Try.prog 20 [.slice xa xs.length xc, .slice ya ys.length yc].toArray w fun e w' => e = .returned (.bool (decide (xs = ys))) ∧ Sat w w' [] := by
  refine fstart Try.func20 rfl rfl (Sat.nil w) ?_
  refine Cd.seq ?_
  refine Cd.region ?_
  refine Ops.q (q_asg rfl) ?_
  refine Ops.to rfl ?_
  refine Cd.seq ?_
  refine Cd.seq ?_
  refine Cd.region ?_
  refine Ops.q (q_mv rfl) ?_
  refine Ops.q (q_len esz_27 rfl) ?_
  refine Ops.q (q_mv rfl) ?_
  refine Ops.q (q_len esz_27 rfl) ?_
  by_cases h1 : (xs.length : Int) = (ys.length : Int)
  · refine Ops.q (q_cmp rfl rfl (c_nne h1)) ?_
    have hlen : xs.length = ys.length := by omega
    refine Ops.to rfl ?_
    refine Cd.cond_f rfl ?_
    refine Cd.skipTo rfl ?_
    refine Cd.seq ?_
    refine Cd.seq ?_
    refine Cd.region ?_
    refine Ops.q (q_asg rfl) ?_
    refine Ops.to rfl ?_
    refine Cd.block ?_
    refine Cd.lp (σ := Nat) (fun k => k ≤ xs.length ∧ xs.take k = ys.take k) (fun k => [(0, .slice xa xs.length xc), (1, .slice ya ys.length yc), (5, .int .i64 (k : Int))]) (fun k => []) (fun k => xs.length - k) 0 ⟨Nat.zero_le _, rfl⟩ ⟨rfl, rfl, rfl, trivial⟩ (fun _ hs => hs) ?_
    intro k hI
    have hI1 := hI.1
    refine Cd.seq ?_
    refine Cd.seq ?_
    refine Cd.region ?_
    refine Ops.q (q_mv rfl) ?_
    refine Ops.q (q_mv rfl) ?_
    refine Ops.q (q_len esz_27 rfl) ?_
    by_cases hk : (k : Int) < (xs.length : Int)
    · refine Ops.q (q_cmp rfl rfl (c_lt hk)) ?_
      obtain ⟨x2, hx3⟩ : ∃ x, xs[k]? = some x := ⟨_, List.getElem?_eq_getElem (by omega)⟩
      obtain ⟨ab4, ao5, rfl⟩ := RoL.pos hX eEvt_len hx3
      obtain ⟨x6, hx7⟩ : ∃ x, ys[k]? = some x := ⟨_, List.getElem?_eq_getElem (by omega)⟩
      obtain ⟨ab8, ao9, rfl⟩ := RoL.pos hY eEvt_len hx7
      refine Ops.to rfl ?_
      refine Cd.cond_t rfl ?_
      refine Cd.skipTo rfl ?_
      refine Cd.seq ?_
      refine Cd.block ?_
      refine Cd.seq ?_
      refine Cd.draw rfl (by kernel_rfl) .nil ?_
      intro F10 St11 hP12 hF13 hR14
      refine Dr.q (i := 0) hP12 rfl (by kernel_rfl) (q_mv rfl) ?_
      refine Dr.q (i := 1) hP12 rfl (by kernel_rfl) (q_mv rfl) ?_
      refine Dr.q (i := 2) hP12 rfl (by kernel_rfl) (q_ix (k := k) esz_27 rfl rfl (by omega)) ?_
      refine Dr.q (i := 3) hP12 rfl (by kernel_rfl) (q_ldRN [.int .i64 x2.tick, .int .i64 x2.id] isA_88 sz_88 rfl (fun j u hu => hX.at eEvt_len hx3 hu)) ?_
      refine Dr.q (i := 4) hP12 rfl (by kernel_rfl) (q_mv rfl) ?_
      refine Dr.q (i := 5) hP12 rfl (by kernel_rfl) (q_mv rfl) ?_
      refine Dr.q (i := 6) hP12 rfl (by kernel_rfl) (q_ix (k := k) esz_27 rfl rfl (by omega)) ?_
      refine Dr.q (i := 7) hP12 rfl (by kernel_rfl) (q_ldRN [.int .i64 x6.tick, .int .i64 x6.id] isA_88 sz_88 rfl (fun j u hu => hY.at eEvt_len hx7 hu)) ?_
      by_cases hc15 : x2 = x6
      · refine Dr.q (i := 8) hP12 rfl (by kernel_rfl) (q_neF [x2.tick, x2.id] [x6.tick, x6.id] intS_88 rfl rfl rfl rfl rfl (by rw [hc15])) ?_
        refine Dr.tail 9 (by kernel_rfl) ?_
        refine Ops.sat ?_ (fun _ hs => hR14 .here hs)
        refine Ops.to rfl ?_
        refine Cd.cond_f rfl ?_
        refine Cd.skipTo rfl ?_
        refine Cd.region ?_
        refine Ops.q (q_mv rfl) ?_
        refine Ops.q (q_ar rfl rfl (a_inc (by omega))) ?_
        refine Ops.q (q_asg rfl) ?_
        refine Ops.rnd (k + 1) rfl (⟨by omega, take_step hI.2 hx3 hx7 hc15⟩) (by omega) ⟨rfl, rfl, rfl, trivial⟩ (fun _ hs => hs) 
      · refine Dr.q (i := 8) hP12 rfl (by kernel_rfl) (q_neT [x2.tick, x2.id] [x6.tick, x6.id] intS_88 rfl rfl rfl rfl rfl (fun e => hc15 (by cases x2; cases x6; simp at e; simp [e]))) ?_
        refine Dr.tail 9 (by kernel_rfl) ?_
        refine Ops.sat ?_ (fun _ hs => hR14 .here hs)
        refine Ops.to rfl ?_
        refine Cd.cond_t rfl ?_
        refine Cd.seq ?_
        refine Cd.region ?_
        refine Ops.q (q_asg rfl) ?_
        refine Ops.to rfl ?_
        refine Cd.rt (fn := Try.f20) [.bool false] (by with_reducible repeat (first | exact rq_here | apply rq_then | apply rq_block)) rfl ⟨rfl, trivial⟩ ?_
        intro w' hs'
        exact ⟨ebool (by simpa using get_ne hx3 hx7 hc15), hs'.none⟩
    · refine Ops.q (q_cmp rfl rfl (c_nlt (by omega))) ?_
      refine Ops.to rfl ?_
      refine Cd.cond_f rfl ?_
      refine Cd.exitTo rfl ?_
      refine Cd.seq ?_
      refine Cd.region ?_
      refine Ops.q (q_asg rfl) ?_
      refine Ops.to rfl ?_
      refine Cd.rt (fn := Try.f20) [.bool true] (by with_reducible repeat (first | exact rq_here | apply rq_then | apply rq_block)) rfl ⟨rfl, trivial⟩ ?_
      intro w' hs'
      exact ⟨ebool (by simpa using take_end hI.2 (by omega) (by omega)), hs'.none⟩
  · refine Ops.q (q_cmp rfl rfl (c_ne h1)) ?_
    refine Ops.to rfl ?_
    refine Cd.cond_t rfl ?_
    refine Cd.seq ?_
    refine Cd.region ?_
    refine Ops.q (q_asg rfl) ?_
    refine Ops.to rfl ?_
    refine Cd.rt (fn := Try.f20) [.bool false] (by with_reducible repeat (first | exact rq_here | apply rq_then | apply rq_block)) rfl ⟨rfl, trivial⟩ ?_
    intro w' hs'
    exact ⟨ebool (by simpa using len_ne h1), hs'.none⟩
end Go.Proofs.Ytilcdghliigngaa
namespace Go.Proofs.Ytilcdghliigngaa
open Go.RowKit Go.Proofs.YtilcdghliigngaaGl Go.Proofs.YtilcdghliigngaaPm
set_option linter.unusedVariables false
set_option linter.unusedSimpArgs false
def lawRun (N : NetP) (err : Int) (t : Int) (evs : List Evt) : List Evt :=
  if err ≠ 0 then [] else if preparedE N evs t 10000 ≠ 0 then [] else (runN N evs t.toNat).getD []
theorem run_err (na : Option Addr) (nc : Nat) (sa : Option Addr) (sc : Nat) (ns : List Prm) (ip : Int) (ss : List Syn) (ea : Option Addr) (ec : Nat) (evs : List Evt) (t : Int) (w : World) (hN : RoL w na ePrm ns) (hS : RoL w sa eSyn ss) (hE : RoL w ea eEvt evs) (hec : evs.length ≤ ec) (hp : preparedE ⟨ns, ip, ss⟩ evs t 10000 ≠ 0) : Calls Try.prog 36 [.agg [.slice na ns.length nc, .int .i64 ip, .slice sa ss.length sc].toArray, .slice ea evs.length ec, .int .i64 t].toArray w fun e w' =>  e = .returned (.tuple [.slice none 0 0, .int .i64 (preparedE ⟨ns, ip, ss⟩ evs t 10000)].toArray) ∧ Sat w w' [] :=
  (run_c na nc sa sc ns ip ss ea ec evs t w hN hS hE hec).mono fun e w' h => by rw [if_pos hp] at h; exact h
theorem run_none (na : Option Addr) (nc : Nat) (sa : Option Addr) (sc : Nat) (ns : List Prm) (ip : Int) (ss : List Syn) (ea : Option Addr) (ec : Nat) (evs : List Evt) (t : Int) (w : World) (hN : RoL w na ePrm ns) (hS : RoL w sa eSyn ss) (hE : RoL w ea eEvt evs) (hec : evs.length ≤ ec) (hp : preparedE ⟨ns, ip, ss⟩ evs t 10000 = 0) (hr : runN ⟨ns, ip, ss⟩ evs t.toNat = none) : Calls Try.prog 36 [.agg [.slice na ns.length nc, .int .i64 ip, .slice sa ss.length sc].toArray, .slice ea evs.length ec, .int .i64 t].toArray w fun e w' =>  e = .returned (.tuple [.slice none 0 0, .int .i64 8].toArray) ∧ Sat w w' [] :=
  (run_c na nc sa sc ns ip ss ea ec evs t w hN hS hE hec).mono fun e w' h => by rw [if_neg (by simpa using hp), hr] at h; exact h
theorem run_some (na : Option Addr) (nc : Nat) (sa : Option Addr) (sc : Nat) (ns : List Prm) (ip : Int) (ss : List Syn) (ea : Option Addr) (ec : Nat) (evs : List Evt) (t : Int) (w : World) (hN : RoL w na ePrm ns) (hS : RoL w sa eSyn ss) (hE : RoL w ea eEvt evs) (hec : evs.length ≤ ec) (out : List Evt) (hp : preparedE ⟨ns, ip, ss⟩ evs t 10000 = 0) (hr : runN ⟨ns, ip, ss⟩ evs t.toNat = some out) : Calls Try.prog 36 [.agg [.slice na ns.length nc, .int .i64 ip, .slice sa ss.length sc].toArray, .slice ea evs.length ec, .int .i64 t].toArray w fun e w' =>  ∃ p : Option Addr × Nat, e = .returned (.tuple [.slice p.1 out.length p.2, .int .i64 0].toArray) ∧ Sat w w' [row p.1 p.2 88 2 out.length (out.flatMap eEvt)] :=
  (run_c na nc sa sc ns ip ss ea ec evs t w hN hS hE hec).mono fun e w' h => by rw [if_neg (by simpa using hp), hr] at h; exact h
theorem lawRun_c (na : Option Addr) (nc : Nat) (sa : Option Addr) (sc : Nat) (ns : List Prm) (ip : Int) (ss : List Syn) (ea : Option Addr) (ec : Nat) (evs : List Evt) (err t : Int) (w : World) (hN : RoL w na ePrm ns) (hS : RoL w sa eSyn ss) (hE : RoL w ea eEvt evs) (hec : evs.length ≤ ec) : Calls Try.prog 46 [.agg [.slice na ns.length nc, .int .i64 ip, .slice sa ss.length sc].toArray, .int .i64 err, .int .i64 t, .slice ea evs.length ec].toArray w fun e w' => ∃ p : Option Addr × Nat, e = .returned (.slice p.1 (lawRun ⟨ns, ip, ss⟩ err t evs).length p.2) ∧ Sat w w' [row p.1 p.2 88 2 (lawRun ⟨ns, ip, ss⟩ err t evs).length ((lawRun ⟨ns, ip, ss⟩ err t evs).flatMap eEvt)] := by
  refine fstart Try.func46 rfl rfl (Sat.nil w) ?_
  refine Cd.seq ?_
  refine Cd.region ?_
  refine Ops.box [.slice na ns.length nc, .int .i64 ip, .slice sa ss.length sc] rfl rfl ?_
  intro b1
  refine Ops.q (q_asg rfl) ?_
  refine Ops.to rfl ?_
  refine Cd.seq ?_
  refine Cd.seq ?_
  refine Cd.region ?_
  refine Ops.q (q_mv rfl) ?_
  by_cases he : err = 0
  · refine Ops.q (q_cmp rfl rfl (c_nne he)) ?_
    refine Ops.to rfl ?_
    refine Cd.cond_f rfl ?_
    refine Cd.skipTo rfl ?_
    refine Cd.seq ?_
    refine Cd.region ?_
    refine Ops.q (q_ldBN [.slice na ns.length nc, .int .i64 ip, .slice sa ss.length sc] isA_32 sz_32 rfl .here rfl) ?_
    refine Ops.q (q_mv rfl) ?_
    refine Ops.q (q_mv rfl) ?_
    by_cases hp : preparedE ⟨ns, ip, ss⟩ evs t 10000 = 0
    · cases hr : runN ⟨ns, ip, ss⟩ evs t.toNat with
      | none =>
        refine Ops.cp en_36 rfl (fun w hs => run_none _ _ _ _ ns ip ss _ _ evs t w (hN.later hs.below) (hS.later hs.below) (hE.later hs.below) hec hp hr) ?_
        refine Ops.q (q_mv rfl) ?_
        refine Ops.q (q_ext rfl rfl) ?_
        refine Ops.q (q_ext rfl rfl) ?_
        refine Ops.q (q_asg rfl) ?_
        refine Ops.q (q_asg rfl) ?_
        refine Ops.to rfl ?_
        refine Cd.seq ?_
        refine Cd.seq ?_
        refine Cd.region ?_
        refine Ops.q (q_mv rfl) ?_
        refine Ops.q (q_cmp rfl rfl (c_ne (by decide))) ?_
        refine Ops.to rfl ?_
        refine Cd.cond_t rfl ?_
        refine Cd.seq ?_
        refine Cd.region ?_
        refine Ops.q (q_asg rfl) ?_
        refine Ops.to rfl ?_
        refine Cd.rt (fn := Try.f46) [.slice none 0 0] (by with_reducible repeat (first | exact rq_here | apply rq_then | apply rq_block)) rfl ⟨rfl, trivial⟩ ?_
        intro w' hs'
        have hL : lawRun ⟨ns, ip, ss⟩ err t evs = [] := by unfold lawRun; rw [if_neg (by simpa using he), if_neg (by simpa using hp), hr]; rfl
        rw [hL]
        exact ⟨(none, 0), rfl, hs'.none.nilRow 88 2⟩
      | some out =>
        refine Ops.cl en_36 rfl (fun w hs => run_some _ _ _ _ ns ip ss _ _ evs t w (hN.later hs.below) (hS.later hs.below) (hE.later hs.below) hec out hp hr) ?_
        rintro ⟨oa, oc⟩
        refine Ops.q (q_mv rfl) ?_
        refine Ops.q (q_ext rfl rfl) ?_
        refine Ops.q (q_ext rfl rfl) ?_
        refine Ops.q (q_asg rfl) ?_
        refine Ops.q (q_asg rfl) ?_
        refine Ops.to rfl ?_
        refine Cd.seq ?_
        refine Cd.seq ?_
        refine Cd.region ?_
        refine Ops.q (q_mv rfl) ?_
        refine Ops.q (q_cmp rfl rfl (c_nne (by decide))) ?_
        refine Ops.to rfl ?_
        refine Cd.cond_f rfl ?_
        refine Cd.skipTo rfl ?_
        refine Cd.seq ?_
        refine Cd.region ?_
        refine Ops.q (q_mv rfl) ?_
        refine Ops.q (q_asg rfl) ?_
        refine Ops.to rfl ?_
        refine Cd.rt (fn := Try.f46) [.slice oa out.length oc] (by with_reducible repeat (first | exact rq_here | apply rq_then | apply rq_block)) rfl ⟨rfl, trivial⟩ ?_
        intro w' hs'
        have hL : lawRun ⟨ns, ip, ss⟩ err t evs = out := by unfold lawRun; rw [if_neg (by simpa using he), if_neg (by simpa using hp), hr]; rfl
        rw [hL]
        exact ⟨(oa, oc), rfl, hs'.only .here⟩
    · refine Ops.cp en_36 rfl (fun w hs => run_err _ _ _ _ ns ip ss _ _ evs t w (hN.later hs.below) (hS.later hs.below) (hE.later hs.below) hec hp) ?_
      refine Ops.q (q_mv rfl) ?_
      refine Ops.q (q_ext rfl rfl) ?_
      refine Ops.q (q_ext rfl rfl) ?_
      refine Ops.q (q_asg rfl) ?_
      refine Ops.q (q_asg rfl) ?_
      refine Ops.to rfl ?_
      refine Cd.seq ?_
      refine Cd.seq ?_
      refine Cd.region ?_
      refine Ops.q (q_mv rfl) ?_
      refine Ops.q (q_cmp rfl rfl (c_ne hp)) ?_
      refine Ops.to rfl ?_
      refine Cd.cond_t rfl ?_
      refine Cd.seq ?_
      refine Cd.region ?_
      refine Ops.q (q_asg rfl) ?_
      refine Ops.to rfl ?_
      refine Cd.rt (fn := Try.f46) [.slice none 0 0] (by with_reducible repeat (first | exact rq_here | apply rq_then | apply rq_block)) rfl ⟨rfl, trivial⟩ ?_
      intro w' hs'
      have hL : lawRun ⟨ns, ip, ss⟩ err t evs = [] := by unfold lawRun; rw [if_neg (by simpa using he), if_pos hp]
      rw [hL]
      exact ⟨(none, 0), rfl, hs'.none.nilRow 88 2⟩
  · refine Ops.q (q_cmp rfl rfl (c_ne he)) ?_
    refine Ops.to rfl ?_
    refine Cd.cond_t rfl ?_
    refine Cd.seq ?_
    refine Cd.region ?_
    refine Ops.q (q_asg rfl) ?_
    refine Ops.to rfl ?_
    refine Cd.rt (fn := Try.f46) [.slice none 0 0] (by with_reducible repeat (first | exact rq_here | apply rq_then | apply rq_block)) rfl ⟨rfl, trivial⟩ ?_
    intro w' hs'
    have hL : lawRun ⟨ns, ip, ss⟩ err t evs = [] := by unfold lawRun; rw [if_pos he]
    rw [hL]
    exact ⟨(none, 0), rfl, hs'.none.nilRow 88 2⟩
end Go.Proofs.Ytilcdghliigngaa
namespace Go.Proofs.Ytilcdghliigngaa
open Go.RowKit Go.Proofs.YtilcdghliigngaaGl Go.Proofs.YtilcdghliigngaaPm
set_option linter.unusedVariables false
set_option linter.unusedSimpArgs false
def edgeE (n : Int) (e : Edg) : Int := if ¬ wi e.src 0 (n - 1) ∨ ¬ wi e.dst 0 (n - 1) then 4 else if wi e.len 1 16 then 0 else 3
def graphE (n : Int) (es : List Edg) : Int := if wi n 1 512 then (if 4096 < es.length then 9 else firstE (edgeE n) es) else 3
theorem bT {k : FuncId} {vs : Array Value} {w0 w : World} {A : List Atom} {p : Prop} [Decidable p] (hc : Calls Try.prog k vs w fun e w' => e = .returned (.bool (decide p)) ∧ Sat w0 w' A) (h : p) : Calls Try.prog k vs w fun e w' => ∃ _ : Unit, e = .returned (.bool true) ∧ Sat w0 w' A :=
  hc.mono fun e w' h2 => ⟨(), by rw [h2.1, decide_eq_true h], h2.2⟩
theorem bF {k : FuncId} {vs : Array Value} {w0 w : World} {A : List Atom} {p : Prop} [Decidable p] (hc : Calls Try.prog k vs w fun e w' => e = .returned (.bool (decide p)) ∧ Sat w0 w' A) (h : ¬ p) : Calls Try.prog k vs w fun e w' => ∃ _ : Unit, e = .returned (.bool false) ∧ Sat w0 w' A :=
  hc.mono fun e w' h2 => ⟨(), by rw [h2.1, decide_eq_false h], h2.2⟩
theorem below_c (n : Int) (w : World) : Calls Try.prog 65 [.int .i64 n].toArray w fun e w' => ∃ b : Nat, e = .returned (.func (.func 92) #[] #[.pointer (some ⟨b, 0, none⟩)]) ∧ Sat w w' [blk b 3 [.int .i64 n]] := by
  refine fstart Try.func65 rfl rfl (Sat.nil w) ?_
  refine Cd.seq ?_
  refine Cd.region ?_
  refine Ops.box [.int .i64 n] rfl rfl ?_
  intro b1
  refine Ops.q (q_asg rfl) ?_
  refine Ops.to rfl ?_
  refine Cd.seq ?_
  refine Cd.region ?_
  refine Ops.q (q_mkf rfl rfl) ?_
  refine Ops.q (q_asg rfl) ?_
  refine Ops.to rfl ?_
  refine Cd.rt (fn := Try.f65) [.func (.func 92) #[] #[.pointer (some ⟨b1, 0, none⟩)]] (by with_reducible repeat (first | exact rq_here | apply rq_then | apply rq_block)) rfl ⟨rfl, trivial⟩ ?_
  intro w' hs
  exact ⟨b1, rfl, hs⟩
theorem below1_c (b : Nat) (x n : Int) (w0 w : World) (F : List Atom) (hn : -1000000 ≤ n ∧ n ≤ 1000000) (hs : Sat w0 w (blk b 3 [.int .i64 n] :: F)) : Calls Try.prog 92 [.int .i64 x, .pointer (some ⟨b, 0, none⟩)].toArray w fun e w' => e = .returned (.bool (decide (wi x 0 (n - 1)))) ∧ Sat w0 w' (blk b 3 [.int .i64 n] :: F) := by
  refine fstart Try.func92 rfl rfl hs ?_
  refine Cd.seq ?_
  refine Cd.region ?_
  refine Ops.q (q_asg rfl) ?_
  refine Ops.to rfl ?_
  refine Cd.seq ?_
  refine Cd.region ?_
  refine Ops.q (q_mv rfl) ?_
  refine Ops.q (q_ldB isA_3 rfl .here rfl) ?_
  refine Ops.q (q_ar rfl rfl (a_sub (by omega))) ?_
  refine Ops.cp en_57 rfl (fun w hs => in_c _ _ _ w) ?_
  refine Ops.q (q_asg rfl) ?_
  refine Ops.to rfl ?_
  refine Cd.rt (fn := Try.f92) [.bool (decide (wi x 0 (n - 1)))] (by with_reducible repeat (first | exact rq_here | apply rq_then | apply rq_block)) rfl ⟨rfl, trivial⟩ ?_
  intro w' hs'
  exact ⟨rfl, hs'⟩
theorem checkGraph_c (n : Int) (ea : Option Addr) (ec : Nat) (es : List Edg) (w : World) (hE : RoL w ea eEdge es) : Calls Try.prog 71 [.int .i64 n, .slice ea es.length ec].toArray w fun e w' => e = .returned (.int .i64 (graphE n es)) ∧ Sat w w' [] := by
  refine fstart Try.func71 rfl rfl (Sat.nil w) ?_
  refine Cd.seq ?_
  refine Cd.region ?_
  refine Ops.q (q_asg rfl) ?_
  refine Ops.to rfl ?_
  refine Cd.seq ?_
  refine Cd.block ?_
  refine Cd.seq ?_
  refine Cd.region ?_
  refine Ops.q (q_mv rfl) ?_
  by_cases h1 : wi n 1 512
  · refine Ops.cp en_57 rfl (fun w hs => dT (in_c _ _ _ w) h1) ?_
    refine Ops.q (q_not rfl) ?_
    refine Ops.q (q_asg rfl) ?_
    refine Ops.to rfl ?_
    refine Cd.cond_f rfl ?_
    refine Cd.seq ?_
    refine Cd.region ?_
    refine Ops.q (q_mv rfl) ?_
    refine Ops.q (q_len esz_80 rfl) ?_
    by_cases h2 : 4096 < (es.length : Int)
    · refine Ops.q (q_cmp rfl rfl (c_gt h2)) ?_
      refine Ops.q (q_asg rfl) ?_
      refine Ops.to rfl ?_
      refine Cd.cond_t rfl ?_
      refine Cd.seq ?_
      refine Cd.region ?_
      refine Ops.q (q_asg rfl) ?_
      refine Ops.to rfl ?_
      refine Cd.rt (fn := Try.f71) [.int .i64 9] (by with_reducible repeat (first | exact rq_here | apply rq_then | apply rq_block)) rfl ⟨rfl, trivial⟩ ?_
      intro w' hs'
      exact ⟨by simp only [joinV]; unfold graphE; grind, hs'.none⟩
    · refine Ops.q (q_cmp rfl rfl (c_ngt (by omega))) ?_
      refine Ops.q (q_asg rfl) ?_
      refine Ops.to rfl ?_
      refine Cd.cond_f rfl ?_
      refine Cd.skipTo rfl ?_
      refine Cd.seq ?_
      refine Cd.region ?_
      refine Ops.q (q_mv rfl) ?_
      refine Ops.cl (α := Nat) (v := fun b => .func (.func 92) #[] #[.pointer (some ⟨b, 0, none⟩)]) (B := fun b => [blk b 3 [.int .i64 n]]) en_65 rfl (fun w hs => below_c n w) ?_
      intro bl3
      refine Ops.q (q_asg rfl) ?_
      refine Ops.to rfl ?_
      refine Cd.seq ?_
      refine Cd.seq ?_
      refine Cd.region ?_
      refine Ops.q (q_mv rfl) ?_
      refine Ops.q (q_len esz_80 rfl) ?_
      refine Ops.q (q_mv rfl) ?_
      refine Ops.to rfl ?_
      refine Cd.block ?_
      refine Cd.lp (σ := Nat) (fun k => k ≤ es.length ∧ firstE (edgeE n) (es.drop k) = firstE (edgeE n) es) (fun k => [(5, .func (.func 92) #[] #[.pointer (some ⟨bl3, 0, none⟩)]), (18, .slice ea es.length ec), (19, .int .i64 (es.length : Int)), (20, .int .i64 (k : Int))]) (fun k => [blk bl3 3 [.int .i64 n]]) (fun k => es.length - k) 0 ⟨Nat.zero_le _, rfl⟩ ⟨rfl, rfl, rfl, rfl, trivial⟩ (fun _ hs => hs) ?_
      intro k hI
      have hI1 := hI.1
      refine Cd.seq ?_
      refine Cd.region ?_
      by_cases hk : (k : Int) < (es.length : Int)
      · refine Ops.q (q_cmp rfl rfl (c_lt hk)) ?_
        obtain ⟨x4, hx5⟩ : ∃ x, es[k]? = some x := ⟨_, List.getElem?_eq_getElem (by omega)⟩
        obtain ⟨ab6, ao7, rfl⟩ := RoL.pos hE eEdge_len hx5
        refine Ops.to rfl ?_
        refine Cd.seq ?_
        refine Cd.cond_t rfl ?_
        refine Cd.skipTo rfl ?_
        refine Cd.seq ?_
        refine Cd.block ?_
        refine Cd.seq ?_
        refine Cd.region ?_
        refine Ops.q (q_ix (k := k) esz_80 rfl rfl (by omega)) ?_
        refine Ops.q (q_ldRN [.int .i64 x4.src, .int .i64 x4.dst, .int .i64 x4.len] isA_82 sz_82 rfl (fun j u hu => hE.at eEdge_len hx5 hu)) ?_
        refine Ops.alc [.int .i64 0, .int .i64 0, .int .i64 0] zc_82 ?_
        intro b8
        refine Ops.stB [.int .i64 x4.src, .int .i64 x4.dst, .int .i64 x4.len] [.int .i64 x4.src, .int .i64 x4.dst, .int .i64 x4.len] sz_82 rfl rfl rfl (one rfl) .here rfl rfl ?_
        refine Ops.to rfl ?_
        refine Cd.block ?_
        refine Cd.seq ?_
        refine Cd.region ?_
        refine Ops.q (q_mv rfl) ?_
        refine Ops.q (q_fa fo_82_0 rfl) ?_
        refine Ops.q (q_ldB isA_3 rfl .here rfl) ?_
        by_cases h9 : wi x4.src 0 (n - 1)
        · refine Ops.cv (α := Unit) (k := 92) (first := []) (caps := [.pointer (some ⟨bl3, 0, none⟩)]) (vs := [.int .i64 x4.src]) (v := fun _ => .bool true) (A' := fun _ => [blk bl3 3 [.int .i64 n], blk b8 82 [.int .i64 x4.src, .int .i64 x4.dst, .int .i64 x4.len]]) en_92 rfl rfl (fun w hs => bT (below1_c bl3 x4.src n _ w _ (by unfold wi at h1; omega) (((hs.pull .here).pull (.there .here)))) h9) ?_
          intro _
          refine Ops.q (q_not rfl) ?_
          refine Ops.q (q_mv rfl) ?_
          refine Ops.q (q_mv rfl) ?_
          refine Ops.q (q_fa fo_82_1 rfl) ?_
          refine Ops.q (q_ldB isA_3 rfl (.there .here) rfl) ?_
          by_cases h10 : wi x4.dst 0 (n - 1)
          · refine Ops.cv (α := Unit) (k := 92) (first := []) (caps := [.pointer (some ⟨bl3, 0, none⟩)]) (vs := [.int .i64 x4.dst]) (v := fun _ => .bool true) (A' := fun _ => [blk bl3 3 [.int .i64 n], blk b8 82 [.int .i64 x4.src, .int .i64 x4.dst, .int .i64 x4.len]]) en_92 rfl rfl (fun w hs => bT (below1_c bl3 x4.dst n _ w _ (by unfold wi at h1; omega) (((hs.pull (.there .here)).pull (.there .here)))) h10) ?_
            intro _
            refine Ops.q (q_not rfl) ?_
            refine Ops.q (q_pickF rfl rfl) ?_
            refine Ops.q (q_asg rfl) ?_
            refine Ops.to rfl ?_
            refine Cd.cond_f rfl ?_
            refine Cd.seq ?_
            refine Cd.region ?_
            refine Ops.q (q_fa fo_82_2 rfl) ?_
            refine Ops.q (q_ldB isA_3 rfl (.there .here) rfl) ?_
            by_cases h11 : wi x4.len 1 16
            · refine Ops.cp en_57 rfl (fun w hs => dT (in_c _ _ _ w) h11) ?_
              refine Ops.q (q_not rfl) ?_
              refine Ops.q (q_asg rfl) ?_
              refine Ops.to rfl ?_
              refine Cd.cond_f rfl ?_
              refine Cd.skipTo rfl ?_
              refine Cd.region ?_
              refine Ops.q (q_ar rfl rfl (a_inc (by omega))) ?_
              refine Ops.q (q_mv rfl) ?_
              refine Ops.rnd (k + 1) rfl (⟨by omega, by rw [← hI.2]; exact (firstE_step hx5 (by unfold edgeE; simp_all)).symm⟩) (by omega) ⟨rfl, rfl, rfl, rfl, trivial⟩ (fun _ hs => (hs.pull (.there .here)).drop) 
            · refine Ops.cp en_57 rfl (fun w hs => dF (in_c _ _ _ w) h11) ?_
              refine Ops.q (q_not rfl) ?_
              refine Ops.q (q_asg rfl) ?_
              refine Ops.to rfl ?_
              refine Cd.cond_t rfl ?_
              refine Cd.seq ?_
              refine Cd.region ?_
              refine Ops.q (q_asg rfl) ?_
              refine Ops.to rfl ?_
              refine Cd.rt (fn := Try.f71) [.int .i64 3] (by with_reducible repeat (first | exact rq_here | apply rq_then | apply rq_block)) rfl ⟨rfl, trivial⟩ ?_
              intro w' hs'
              exact ⟨by simp only [joinV]; have h8 : edgeE n x4 = 3 := by { unfold edgeE; simp_all }; have := firstE_stop (f := edgeE n) hx5 (by omega); unfold graphE; grind, hs'.none⟩
          · refine Ops.cv (α := Unit) (k := 92) (first := []) (caps := [.pointer (some ⟨bl3, 0, none⟩)]) (vs := [.int .i64 x4.dst]) (v := fun _ => .bool false) (A' := fun _ => [blk bl3 3 [.int .i64 n], blk b8 82 [.int .i64 x4.src, .int .i64 x4.dst, .int .i64 x4.len]]) en_92 rfl rfl (fun w hs => bF (below1_c bl3 x4.dst n _ w _ (by unfold wi at h1; omega) (((hs.pull (.there .here)).pull (.there .here)))) h10) ?_
            intro _
            refine Ops.q (q_not rfl) ?_
            refine Ops.q (q_pickF rfl rfl) ?_
            refine Ops.q (q_asg rfl) ?_
            refine Ops.to rfl ?_
            refine Cd.cond_t rfl ?_
            refine Cd.seq ?_
            refine Cd.region ?_
            refine Ops.q (q_asg rfl) ?_
            refine Ops.to rfl ?_
            refine Cd.rt (fn := Try.f71) [.int .i64 4] (by with_reducible repeat (first | exact rq_here | apply rq_then | apply rq_block)) rfl ⟨rfl, trivial⟩ ?_
            intro w' hs'
            exact ⟨by simp only [joinV]; have h8 : edgeE n x4 = 4 := by { unfold edgeE; simp_all }; have := firstE_stop (f := edgeE n) hx5 (by omega); unfold graphE; grind, hs'.none⟩
        · refine Ops.cv (α := Unit) (k := 92) (first := []) (caps := [.pointer (some ⟨bl3, 0, none⟩)]) (vs := [.int .i64 x4.src]) (v := fun _ => .bool false) (A' := fun _ => [blk bl3 3 [.int .i64 n], blk b8 82 [.int .i64 x4.src, .int .i64 x4.dst, .int .i64 x4.len]]) en_92 rfl rfl (fun w hs => bF (below1_c bl3 x4.src n _ w _ (by unfold wi at h1; omega) (((hs.pull .here).pull (.there .here)))) h9) ?_
          intro _
          refine Ops.q (q_not rfl) ?_
          refine Ops.q (q_mv rfl) ?_
          refine Ops.sk ?_
          refine Ops.sk ?_
          refine Ops.sk ?_
          refine Ops.sk ?_
          refine Ops.sk ?_
          refine Ops.q (q_pickT rfl rfl) ?_
          refine Ops.q (q_asg rfl) ?_
          refine Ops.to rfl ?_
          refine Cd.cond_t rfl ?_
          refine Cd.seq ?_
          refine Cd.region ?_
          refine Ops.q (q_asg rfl) ?_
          refine Ops.to rfl ?_
          refine Cd.rt (fn := Try.f71) [.int .i64 4] (by with_reducible repeat (first | exact rq_here | apply rq_then | apply rq_block)) rfl ⟨rfl, trivial⟩ ?_
          intro w' hs'
          exact ⟨by simp only [joinV]; have h8 : edgeE n x4 = 4 := by { unfold edgeE; simp_all }; have := firstE_stop (f := edgeE n) hx5 (by omega); unfold graphE; grind, hs'.none⟩
      · refine Ops.q (q_cmp rfl rfl (c_nlt (by omega))) ?_
        refine Ops.to rfl ?_
        refine Cd.seq ?_
        refine Cd.cond_f rfl ?_
        refine Cd.exitTo rfl ?_
        refine Cd.seq ?_
        refine Cd.region ?_
        refine Ops.q (q_asg rfl) ?_
        refine Ops.to rfl ?_
        refine Cd.rt (fn := Try.f71) [.int .i64 0] (by with_reducible repeat (first | exact rq_here | apply rq_then | apply rq_block)) rfl ⟨rfl, trivial⟩ ?_
        intro w' hs'
        exact ⟨by simp only [joinV]; have := firstE_end (f := edgeE n) (show es.length ≤ k by omega); unfold graphE; grind, hs'.none⟩
  · refine Ops.cp en_57 rfl (fun w hs => dF (in_c _ _ _ w) h1) ?_
    refine Ops.q (q_not rfl) ?_
    refine Ops.q (q_asg rfl) ?_
    refine Ops.to rfl ?_
    refine Cd.cond_t rfl ?_
    refine Cd.seq ?_
    refine Cd.region ?_
    refine Ops.q (q_asg rfl) ?_
    refine Ops.to rfl ?_
    refine Cd.rt (fn := Try.f71) [.int .i64 3] (by with_reducible repeat (first | exact rq_here | apply rq_then | apply rq_block)) rfl ⟨rfl, trivial⟩ ?_
    intro w' hs'
    exact ⟨by simp only [joinV]; unfold graphE; grind, hs'.none⟩
end Go.Proofs.Ytilcdghliigngaa
