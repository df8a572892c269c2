/- Part of a claim: the program logic, the contracts of the functions, their models. No condition. -/
import Derived.WalkKit
import Derived.OwnWalkIn
import Derived.TacticsInMore
import Derived.OrdersIn
import Derived.RangeFuncLeaves
import Derived.RangeFuncNested
import Derived.Maps.AppendAt
import Derived.Shelf.Abstract
import Derived.MapKept
import Derived.Laws.StructEq
import Derived.Laws.OwnMore
import Derived.RangeFuncRecord
import Derived.Lib.SliceRun
import Derived.Lib.AppendZeros
import Derived.Lib.AppendZerosOnto
import Derived.Lib.Overlaps
import Derived.Laws.Externs
import Derived.Maps.RangeRun
import Derived.Lib.AppendStr
import Derived.Laws.Pointers
import Derived.Laws.Small
import Derived.Laws.IdiomStrings
import Derived.Laws.Slices
import Derived.Test.YtilcdghliigngaaGreatDoorProg
import Derived.Test.YtilcdghliigngaaGreatDoorPk3
namespace Go.Proofs.YtilcdghliigngaaGreatDoor
open Go.RowKit Go.Proofs.YtilcdghliigngaaGreatDoorGl Go.Proofs.YtilcdghliigngaaGreatDoorPm
set_option linter.unusedVariables false
set_option linter.unusedSimpArgs false
theorem mpT_156 : mpT Tryz.prog 156 = some (3, 100) := by kernel_rfl
theorem kinds_c (w : World) : Calls Tryz.prog 43 [.int .i64 2].toArray w fun e w' => e = .returned (.tuple [.agg [.func (.func 83) #[] #[], .func (.func 84) #[] #[]].toArray, .bool true].toArray) ∧ Sat w w' [] := by
  refine fstart Tryz.func43 rfl rfl (Sat.nil w) ?_
  refine Cd.seq ?_
  refine Cd.region ?_
  refine Ops.alc [.nilFunc, .nilFunc] zc_100 ?_
  intro b1
  refine Ops.q (q_asg rfl) ?_
  refine Ops.to rfl ?_
  refine Cd.seq ?_
  refine Cd.region ?_
  refine Ops.mkmO ?_
  intro b
  refine Ops.q (q_bld [.func (.func 81) #[] #[], .func (.func 82) #[] #[]] pls_100 zc_100 rfl rfl) ?_
  refine Ops.insO mpT_156 iK_3 rfl rfl rfl (by simp [findI]) .here ?_
  refine Ops.q (q_bld [.func (.func 83) #[] #[], .func (.func 84) #[] #[]] pls_100 zc_100 rfl rfl) ?_
  refine Ops.insO mpT_156 iK_3 rfl rfl rfl (by simp [findI]) .here ?_
  refine Ops.q (q_mv rfl) ?_
  refine Ops.q (q_mv rfl) ?_
  refine Ops.q (q_lookO (v := .agg [.func (.func 83) #[] #[], .func (.func 84) #[] #[]].toArray) (ok := true) mpT_156 iK_3 rfl rfl .here (.inl ⟨by simp [looki, findI], rfl⟩)) ?_
  refine Ops.q (q_mv rfl) ?_
  refine Ops.q (q_ext rfl rfl) ?_
  refine Ops.q (q_ext rfl rfl) ?_
  refine Ops.alc [.nilFunc, .nilFunc] zc_100 ?_
  intro b2
  refine Ops.stB [.func (.func 83) #[] #[], .func (.func 84) #[] #[]] [.func (.func 83) #[] #[], .func (.func 84) #[] #[]] sz_100 rfl rfl rfl (one rfl) .here rfl rfl ?_
  refine Ops.q (q_asg rfl) ?_
  refine Ops.to rfl ?_
  refine Cd.seq ?_
  refine Cd.region ?_
  refine Ops.q (q_ldBN [.func (.func 83) #[] #[], .func (.func 84) #[] #[]] isA_100 sz_100 rfl .here rfl) ?_
  refine Ops.q (q_mv rfl) ?_
  refine Ops.stB [.func (.func 83) #[] #[], .func (.func 84) #[] #[]] [.func (.func 83) #[] #[], .func (.func 84) #[] #[]] sz_100 rfl rfl rfl (one rfl) .p2 rfl rfl ?_
  refine Ops.q (q_asg rfl) ?_
  refine Ops.to rfl ?_
  refine Cd.rt (fn := Tryz.f43) [.agg [.func (.func 83) #[] #[], .func (.func 84) #[] #[]].toArray, .bool true] (by with_reducible repeat (first | exact rq_here | apply rq_then | apply rq_block)) rfl ⟨⟨_, _, rfl, fun _ hs => run_loadN isA_100 sz_100 (fun o u hu => Sat.atB .p2 (by rw [Nat.zero_add]; exact hu) hs)⟩, rfl, trivial⟩ ?_
  intro w' hs'
  exact ⟨rfl, hs'.none⟩
theorem counts2_c (qa : Option Addr) (qc at_ m ob oo oc : Nat) (lz : List NL) (ra : Option Addr) (rc : Nat) (rv : List Int) (w : World) (hN : RoL w qa eInt [(m : Int)]) (hO : RoLL w (some ⟨ob, oo, none⟩) lz) (hlz : lz.length = at_ + 1) (hoc : lz.length ≤ oc) (hat : at_ ≤ 10000) (hl0 : lz[at_]? = some ((ra, rc), rv)) (hu : rv[m]? = some 2) : Calls Tryz.prog 84 [.agg [.int .i64 2, .slice qa 1 qc, .int .i64 (at_ : Int), .int .i64 ((at_ + 1 : Nat) : Int), .int .i64 1, .int .i64 1].toArray, .slice (some ⟨ob, oo, none⟩) (at_ + 1) oc].toArray w fun e w' => e = .returned (.int .i64 (1)) ∧ Sat w w' [] := by
  have hR : RoL w ra eInt rv := hO.2 _ (List.mem_iff_getElem?.2 ⟨at_, hl0⟩)
  have hml := (List.getElem?_eq_some_iff.1 hu).1
  refine fstart Tryz.func84 rfl rfl (Sat.nil w) ?_
  refine Cd.seq ?_
  refine Cd.region ?_
  refine Ops.box [.int .i64 2, .slice qa 1 qc, .int .i64 (at_ : Int), .int .i64 ((at_ + 1 : Nat) : Int), .int .i64 1, .int .i64 1] rfl rfl ?_
  intro b1
  refine Ops.q (q_asg rfl) ?_
  refine Ops.to rfl ?_
  refine Cd.seq ?_
  refine Cd.region ?_
  refine Ops.q (q_asg rfl) ?_
  refine Ops.q (q_asg rfl) ?_
  refine Ops.to rfl ?_
  refine Cd.seq ?_
  refine Cd.seq ?_
  refine Cd.region ?_
  refine Ops.q (q_mv rfl) ?_
  refine Ops.q (q_fa fo_56_2 rfl) ?_
  refine Ops.q (q_ldB isA_3 rfl .here rfl) ?_
  refine Ops.q (q_fa fo_56_3 rfl) ?_
  refine Ops.q (q_ldB isA_3 rfl .here rfl) ?_
  refine Ops.q (q_cutLH (lo := at_) (hi := at_ + 1) (m := 1) el_26 sz_31 rfl rfl rfl (by omega) (by omega) (by omega) (by omega)) ?_
  refine Ops.q (q_len esz_26 rfl) ?_
  refine Ops.q (q_mv rfl) ?_
  refine Ops.to rfl ?_
  refine Cd.block ?_
  refine Cd.lp (σ := Nat) (fun k => k ≤ 1) (fun k => [(1, .slice (some ⟨ob, oo, none⟩) (at_ + 1) oc), (2, .pointer (some ⟨b1, 0, none⟩)), (6, .int .i64 0), (16, .slice (some ⟨ob, oo + at_ * 1, none⟩) 1 (oc - at_)), (17, .int .i64 1), (5, .int .i64 (k : Int)), (18, .int .i64 (k : Int))]) (fun k => [blk b1 56 [.int .i64 2, .slice qa 1 qc, .int .i64 (at_ : Int), .int .i64 ((at_ + 1 : Nat) : Int), .int .i64 1, .int .i64 1]]) (fun k => 1 - k) 0 (Nat.zero_le _) ⟨rfl, rfl, rfl, rfl, rfl, rfl, rfl, trivial⟩ (fun _ hs => hs) ?_
  intro k hI
  refine Cd.seq ?_
  refine Cd.region ?_
  by_cases hk : (k : Int) < 1
  · refine Ops.q (q_cmp rfl rfl (c_lt hk)) ?_
    obtain rfl : k = 0 := by omega
    refine Ops.to rfl ?_
    refine Cd.seq ?_
    refine Cd.cond_t rfl ?_
    refine Cd.skipTo rfl ?_
    refine Cd.seq ?_
    refine Cd.block ?_
    refine Cd.seq ?_
    refine Cd.region ?_
    refine Ops.q (q_ix1 (k := 0) esz_26 rfl rfl (by decide)) ?_
    refine Ops.q (q_ldR (v := .slice ra rv.length rc) isA_31 rfl (by have h9 := RoL.at0 hO.1 eNL_len hl0 (v := .slice ra rv.length rc) rfl; simpa using h9)) ?_
    refine Ops.q (q_asg rfl) ?_
    refine Ops.to rfl ?_
    refine Cd.seq ?_
    refine Cd.region ?_
    refine Ops.q (q_fa fo_56_1 rfl) ?_
    refine Ops.q (q_ldB isA_31 rfl .here rfl) ?_
    refine Ops.q (q_len esz_31 rfl) ?_
    refine Ops.q (q_mv rfl) ?_
    refine Ops.to rfl ?_
    refine Cd.block ?_
    refine Cd.lp (σ := Nat) (fun j => j ≤ 1) (fun j => [(1, .slice (some ⟨ob, oo, none⟩) (at_ + 1) oc), (2, .pointer (some ⟨b1, 0, none⟩)), (6, .int .i64 0), (16, .slice (some ⟨ob, oo + at_ * 1, none⟩) 1 (oc - at_)), (17, .int .i64 1), (18, .int .i64 (0 : Int)), (8, .slice ra rv.length rc), (23, .slice qa 1 qc), (24, .int .i64 1), (5, .int .i64 (j : Int)), (25, .int .i64 (j : Int))]) (fun j => [blk b1 56 [.int .i64 2, .slice qa 1 qc, .int .i64 (at_ : Int), .int .i64 ((at_ + 1 : Nat) : Int), .int .i64 1, .int .i64 1]]) (fun j => 1 - j) 0 (Nat.zero_le _) ⟨rfl, rfl, rfl, rfl, rfl, rfl, rfl, rfl, rfl, rfl, rfl, trivial⟩ (fun _ hs => hs) ?_
    intro j hI
    refine Cd.seq ?_
    refine Cd.region ?_
    by_cases hj : (j : Int) < 1
    · refine Ops.q (q_cmp rfl rfl (c_lt hj)) ?_
      obtain rfl : j = 0 := by omega
      obtain ⟨qb, qo, rfl⟩ := RoL.pos hN eInt_len (xs := [(m : Int)]) (k := 0) rfl
      obtain ⟨rb, ro, rfl⟩ := RoL.pos hR eInt_len hu
      refine Ops.to rfl ?_
      refine Cd.seq ?_
      refine Cd.cond_t rfl ?_
      refine Cd.skipTo rfl ?_
      refine Cd.seq ?_
      refine Cd.block ?_
      refine Cd.seq ?_
      refine Cd.region ?_
      refine Ops.q (q_ix (k := 0) esz_31 rfl rfl (by omega)) ?_
      refine Ops.q (q_ldR (v := .int .i64 (m : Int)) isA_3 rfl (RoL.at0 hN eInt_len (k := 0) rfl rfl)) ?_
      refine Ops.q (q_asg rfl) ?_
      refine Ops.to rfl ?_
      refine Cd.seq ?_
      refine Cd.region ?_
      refine Ops.q (q_mv rfl) ?_
      refine Ops.q (q_mv rfl) ?_
      refine Ops.q (q_ix (k := m) esz_31 rfl rfl (by omega)) ?_
      refine Ops.q (q_ldR isA_3 rfl (hR.at0 eInt_len hu rfl)) ?_
      refine Ops.to rfl ?_
      refine Cd.block ?_
      refine Cd.seq ?_
      refine Cd.region ?_
      refine Ops.q (q_cmp rfl rfl (c_eq (by decide))) ?_
      refine Ops.q (q_asg rfl) ?_
      refine Ops.to rfl ?_
      refine Cd.cond_t rfl ?_
      refine Cd.region ?_
      refine Ops.q (q_mv rfl) ?_
      refine Ops.q (q_ar rfl rfl (a_inc (by first | omega | decide))) ?_
      refine Ops.q (q_asg rfl) ?_
      refine Ops.to rfl ?_
      refine Cd.region ?_
      refine Ops.q (q_ar rfl rfl (a_inc (by first | omega | decide))) ?_
      refine Ops.q (q_mv rfl) ?_
      refine Ops.rnd (1) rfl (by omega) (by omega) ⟨rfl, rfl, rfl, rfl, rfl, rfl, rfl, rfl, rfl, rfl, rfl, trivial⟩ (fun _ hs => hs) 
    · refine Ops.q (q_cmp rfl rfl (c_nlt (by omega))) ?_
      refine Ops.to rfl ?_
      refine Cd.seq ?_
      refine Cd.cond_f rfl ?_
      refine Cd.exitTo rfl ?_
      refine Cd.region ?_
      refine Ops.q (q_ar rfl rfl (a_inc (by first | omega | decide))) ?_
      refine Ops.q (q_mv rfl) ?_
      refine Ops.rnd (1) rfl (by omega) (by omega) ⟨rfl, rfl, rfl, rfl, rfl, (by (try dsimp only); rw [show j = 1 by omega]; rfl), rfl, trivial⟩ (fun _ hs => hs) 
  · refine Ops.q (q_cmp rfl rfl (c_nlt (by omega))) ?_
    have hk1 : k = 1 := by omega
    refine Ops.to rfl ?_
    refine Cd.seq ?_
    refine Cd.cond_f rfl ?_
    refine Cd.exitTo rfl ?_
    refine Cd.seq ?_
    refine Cd.block ?_
    refine Cd.seq ?_
    refine Cd.region ?_
    refine Ops.q (q_fa fo_56_4 rfl) ?_
    refine Ops.q (q_ldB isA_3 rfl .here rfl) ?_
    refine Ops.q (q_mv rfl) ?_
    refine Ops.q (q_cmp rfl rfl (c_le (by omega))) ?_
    refine Ops.q (q_mv rfl) ?_
    refine Ops.q (q_mv rfl) ?_
    refine Ops.q (q_mv rfl) ?_
    refine Ops.q (q_ar rfl rfl (a_add (by omega))) ?_
    refine Ops.q (q_fa fo_56_5 rfl) ?_
    refine Ops.q (q_ldB isA_3 rfl .here rfl) ?_
    refine Ops.q (q_cmp rfl rfl (c_le (by omega))) ?_
    refine Ops.q (q_pickT rfl rfl) ?_
    refine Ops.q (q_asg rfl) ?_
    refine Ops.to rfl ?_
    refine Cd.cond_t rfl ?_
    refine Cd.seq ?_
    refine Cd.region ?_
    refine Ops.q (q_asg rfl) ?_
    refine Ops.to rfl ?_
    refine Cd.rt (fn := Tryz.f84) [.int .i64 1] (by with_reducible repeat (first | exact rq_here | apply rq_then | apply rq_block)) rfl ⟨rfl, trivial⟩ ?_
    intro w' hs'
    exact ⟨rfl, hs'.none⟩
theorem counts0_c (qa : Option Addr) (qc at_ m ob oo oc : Nat) (lz : List NL) (ra : Option Addr) (rc : Nat) (rv : List Int) (w : World) (hN : RoL w qa eInt [(m : Int)]) (hO : RoLL w (some ⟨ob, oo, none⟩) lz) (hlz : lz.length = at_ + 1) (hoc : lz.length ≤ oc) (hat : at_ ≤ 10000) (hl0 : lz[at_]? = some ((ra, rc), rv)) (hu : rv[m]? = some 0) : Calls Tryz.prog 84 [.agg [.int .i64 2, .slice qa 1 qc, .int .i64 (at_ : Int), .int .i64 ((at_ + 1 : Nat) : Int), .int .i64 1, .int .i64 1].toArray, .slice (some ⟨ob, oo, none⟩) (at_ + 1) oc].toArray w fun e w' => e = .returned (.int .i64 (-1)) ∧ Sat w w' [] := by
  have hR : RoL w ra eInt rv := hO.2 _ (List.mem_iff_getElem?.2 ⟨at_, hl0⟩)
  have hml := (List.getElem?_eq_some_iff.1 hu).1
  refine fstart Tryz.func84 rfl rfl (Sat.nil w) ?_
  refine Cd.seq ?_
  refine Cd.region ?_
  refine Ops.box [.int .i64 2, .slice qa 1 qc, .int .i64 (at_ : Int), .int .i64 ((at_ + 1 : Nat) : Int), .int .i64 1, .int .i64 1] rfl rfl ?_
  intro b1
  refine Ops.q (q_asg rfl) ?_
  refine Ops.to rfl ?_
  refine Cd.seq ?_
  refine Cd.region ?_
  refine Ops.q (q_asg rfl) ?_
  refine Ops.q (q_asg rfl) ?_
  refine Ops.to rfl ?_
  refine Cd.seq ?_
  refine Cd.seq ?_
  refine Cd.region ?_
  refine Ops.q (q_mv rfl) ?_
  refine Ops.q (q_fa fo_56_2 rfl) ?_
  refine Ops.q (q_ldB isA_3 rfl .here rfl) ?_
  refine Ops.q (q_fa fo_56_3 rfl) ?_
  refine Ops.q (q_ldB isA_3 rfl .here rfl) ?_
  refine Ops.q (q_cutLH (lo := at_) (hi := at_ + 1) (m := 1) el_26 sz_31 rfl rfl rfl (by omega) (by omega) (by omega) (by omega)) ?_
  refine Ops.q (q_len esz_26 rfl) ?_
  refine Ops.q (q_mv rfl) ?_
  refine Ops.to rfl ?_
  refine Cd.block ?_
  refine Cd.lp (σ := Nat) (fun k => k ≤ 1) (fun k => [(1, .slice (some ⟨ob, oo, none⟩) (at_ + 1) oc), (2, .pointer (some ⟨b1, 0, none⟩)), (6, .int .i64 0), (16, .slice (some ⟨ob, oo + at_ * 1, none⟩) 1 (oc - at_)), (17, .int .i64 1), (5, .int .i64 0), (18, .int .i64 (k : Int))]) (fun k => [blk b1 56 [.int .i64 2, .slice qa 1 qc, .int .i64 (at_ : Int), .int .i64 ((at_ + 1 : Nat) : Int), .int .i64 1, .int .i64 1]]) (fun k => 1 - k) 0 (Nat.zero_le _) ⟨rfl, rfl, rfl, rfl, rfl, rfl, rfl, trivial⟩ (fun _ hs => hs) ?_
  intro k hI
  refine Cd.seq ?_
  refine Cd.region ?_
  by_cases hk : (k : Int) < 1
  · refine Ops.q (q_cmp rfl rfl (c_lt hk)) ?_
    obtain rfl : k = 0 := by omega
    refine Ops.to rfl ?_
    refine Cd.seq ?_
    refine Cd.cond_t rfl ?_
    refine Cd.skipTo rfl ?_
    refine Cd.seq ?_
    refine Cd.block ?_
    refine Cd.seq ?_
    refine Cd.region ?_
    refine Ops.q (q_ix1 (k := 0) esz_26 rfl rfl (by decide)) ?_
    refine Ops.q (q_ldR (v := .slice ra rv.length rc) isA_31 rfl (by have h9 := RoL.at0 hO.1 eNL_len hl0 (v := .slice ra rv.length rc) rfl; simpa using h9)) ?_
    refine Ops.q (q_asg rfl) ?_
    refine Ops.to rfl ?_
    refine Cd.seq ?_
    refine Cd.region ?_
    refine Ops.q (q_fa fo_56_1 rfl) ?_
    refine Ops.q (q_ldB isA_31 rfl .here rfl) ?_
    refine Ops.q (q_len esz_31 rfl) ?_
    refine Ops.q (q_mv rfl) ?_
    refine Ops.to rfl ?_
    refine Cd.block ?_
    refine Cd.lp (σ := Nat) (fun j => j ≤ 1) (fun j => [(1, .slice (some ⟨ob, oo, none⟩) (at_ + 1) oc), (2, .pointer (some ⟨b1, 0, none⟩)), (6, .int .i64 0), (16, .slice (some ⟨ob, oo + at_ * 1, none⟩) 1 (oc - at_)), (17, .int .i64 1), (18, .int .i64 (0 : Int)), (8, .slice ra rv.length rc), (23, .slice qa 1 qc), (24, .int .i64 1), (5, .int .i64 0), (25, .int .i64 (j : Int))]) (fun j => [blk b1 56 [.int .i64 2, .slice qa 1 qc, .int .i64 (at_ : Int), .int .i64 ((at_ + 1 : Nat) : Int), .int .i64 1, .int .i64 1]]) (fun j => 1 - j) 0 (Nat.zero_le _) ⟨rfl, rfl, rfl, rfl, rfl, rfl, rfl, rfl, rfl, rfl, rfl, trivial⟩ (fun _ hs => hs) ?_
    intro j hI
    refine Cd.seq ?_
    refine Cd.region ?_
    by_cases hj : (j : Int) < 1
    · refine Ops.q (q_cmp rfl rfl (c_lt hj)) ?_
      obtain rfl : j = 0 := by omega
      obtain ⟨qb, qo, rfl⟩ := RoL.pos hN eInt_len (xs := [(m : Int)]) (k := 0) rfl
      obtain ⟨rb, ro, rfl⟩ := RoL.pos hR eInt_len hu
      refine Ops.to rfl ?_
      refine Cd.seq ?_
      refine Cd.cond_t rfl ?_
      refine Cd.skipTo rfl ?_
      refine Cd.seq ?_
      refine Cd.block ?_
      refine Cd.seq ?_
      refine Cd.region ?_
      refine Ops.q (q_ix (k := 0) esz_31 rfl rfl (by omega)) ?_
      refine Ops.q (q_ldR (v := .int .i64 (m : Int)) isA_3 rfl (RoL.at0 hN eInt_len (k := 0) rfl rfl)) ?_
      refine Ops.q (q_asg rfl) ?_
      refine Ops.to rfl ?_
      refine Cd.seq ?_
      refine Cd.region ?_
      refine Ops.q (q_mv rfl) ?_
      refine Ops.q (q_mv rfl) ?_
      refine Ops.q (q_ix (k := m) esz_31 rfl rfl (by omega)) ?_
      refine Ops.q (q_ldR isA_3 rfl (hR.at0 eInt_len hu rfl)) ?_
      refine Ops.to rfl ?_
      refine Cd.block ?_
      refine Cd.seq ?_
      refine Cd.region ?_
      refine Ops.q (q_cmp rfl rfl (c_neq (by decide))) ?_
      refine Ops.q (q_asg rfl) ?_
      refine Ops.to rfl ?_
      refine Cd.cond_f rfl ?_
      refine Cd.seq ?_
      refine Cd.region ?_
      refine Ops.q (q_cmp rfl rfl (c_neq (by decide))) ?_
      refine Ops.q (q_asg rfl) ?_
      refine Ops.to rfl ?_
      refine Cd.cond_f rfl ?_
      refine Cd.skipTo rfl ?_
      refine Cd.region ?_
      refine Ops.q (q_ar rfl rfl (a_inc (by first | omega | decide))) ?_
      refine Ops.q (q_mv rfl) ?_
      refine Ops.rnd (1) rfl (by omega) (by omega) ⟨rfl, rfl, rfl, rfl, rfl, rfl, rfl, rfl, rfl, rfl, rfl, trivial⟩ (fun _ hs => hs) 
    · refine Ops.q (q_cmp rfl rfl (c_nlt (by omega))) ?_
      refine Ops.to rfl ?_
      refine Cd.seq ?_
      refine Cd.cond_f rfl ?_
      refine Cd.exitTo rfl ?_
      refine Cd.region ?_
      refine Ops.q (q_ar rfl rfl (a_inc (by first | omega | decide))) ?_
      refine Ops.q (q_mv rfl) ?_
      refine Ops.rnd (1) rfl (by omega) (by omega) ⟨rfl, rfl, rfl, rfl, rfl, rfl, rfl, trivial⟩ (fun _ hs => hs) 
  · refine Ops.q (q_cmp rfl rfl (c_nlt (by omega))) ?_
    have hk1 : k = 1 := by omega
    refine Ops.to rfl ?_
    refine Cd.seq ?_
    refine Cd.cond_f rfl ?_
    refine Cd.exitTo rfl ?_
    refine Cd.seq ?_
    refine Cd.block ?_
    refine Cd.seq ?_
    refine Cd.region ?_
    refine Ops.q (q_fa fo_56_4 rfl) ?_
    refine Ops.q (q_ldB isA_3 rfl .here rfl) ?_
    refine Ops.q (q_mv rfl) ?_
    refine Ops.q (q_cmp rfl rfl (c_nle (by omega))) ?_
    refine Ops.q (q_mv rfl) ?_
    refine Ops.sk ?_
    refine Ops.sk ?_
    refine Ops.sk ?_
    refine Ops.sk ?_
    refine Ops.sk ?_
    refine Ops.sk ?_
    refine Ops.q (q_pickF rfl rfl) ?_
    refine Ops.q (q_asg rfl) ?_
    refine Ops.to rfl ?_
    refine Cd.cond_f rfl ?_
    refine Cd.seq ?_
    refine Cd.region ?_
    refine Ops.q (q_mv rfl) ?_
    refine Ops.q (q_mv rfl) ?_
    refine Ops.q (q_ar (v := 0) rfl rfl (a_add (by decide))) ?_
    refine Ops.q (q_fa fo_56_4 rfl) ?_
    refine Ops.q (q_ldB isA_3 rfl .here rfl) ?_
    refine Ops.q (q_cmp rfl rfl (c_lt (by omega))) ?_
    refine Ops.q (q_mv rfl) ?_
    refine Ops.sk ?_
    refine Ops.sk ?_
    refine Ops.sk ?_
    refine Ops.sk ?_
    refine Ops.q (q_pickT rfl rfl) ?_
    refine Ops.q (q_asg rfl) ?_
    refine Ops.to rfl ?_
    refine Cd.cond_t rfl ?_
    refine Cd.seq ?_
    refine Cd.region ?_
    refine Ops.q (q_asg rfl) ?_
    refine Ops.to rfl ?_
    refine Cd.rt (fn := Tryz.f84) [.int .i64 (-1)] (by with_reducible repeat (first | exact rq_here | apply rq_then | apply rq_block)) rfl ⟨rfl, trivial⟩ ?_
    intro w' hs'
    exact ⟨rfl, hs'.none⟩
theorem claim_c (qa : Option Addr) (qc at_ m : Nat) (na : Option Addr) (nc : Nat) (sa : Option Addr) (sc : Nat) (ns : List Prm) (ip : Int) (ss : List Syn) (w : World) (hN : RoL w qa eInt [(m : Int)]) (hm : m < ns.length) (hn : ns.length ≤ 1000) (hat : at_ < 10000) : Calls Tryz.prog 40 [.agg [.int .i64 2, .slice qa 1 qc, .int .i64 (at_ : Int), .int .i64 ((at_ + 1 : Nat) : Int), .int .i64 1, .int .i64 1].toArray, .agg [.slice na ns.length nc, .int .i64 ip, .slice sa ss.length sc].toArray].toArray w fun e w' => e = .returned (.int .i64 0) ∧ Sat w w' [] := by
  refine fstart Tryz.func40 rfl rfl (Sat.nil w) ?_
  refine Cd.seq ?_
  refine Cd.region ?_
  refine Ops.box [.int .i64 2, .slice qa 1 qc, .int .i64 (at_ : Int), .int .i64 ((at_ + 1 : Nat) : Int), .int .i64 1, .int .i64 1] rfl rfl ?_
  intro b1
  refine Ops.box [.slice na ns.length nc, .int .i64 ip, .slice sa ss.length sc] rfl rfl ?_
  intro b2
  refine Ops.q (q_asg rfl) ?_
  refine Ops.to rfl ?_
  refine Cd.seq ?_
  refine Cd.seq ?_
  refine Cd.region ?_
  refine Ops.q (q_fa fo_56_0 rfl) ?_
  refine Ops.q (q_ldB isA_3 rfl (.there .here) rfl) ?_
  refine Ops.cp en_43 rfl (fun w hs => kinds_c w) ?_
  refine Ops.q (q_mv rfl) ?_
  refine Ops.q (q_ext rfl rfl) ?_
  refine Ops.q (q_ext rfl rfl) ?_
  refine Ops.alc [.nilFunc, .nilFunc] zc_100 ?_
  intro b3
  refine Ops.stB [.func (.func 83) #[] #[], .func (.func 84) #[] #[]] [.func (.func 83) #[] #[], .func (.func 84) #[] #[]] sz_100 rfl rfl rfl (one rfl) .here rfl rfl ?_
  refine Ops.q (q_asg rfl) ?_
  refine Ops.to rfl ?_
  refine Cd.seq ?_
  refine Cd.region ?_
  refine Ops.q (q_mv rfl) ?_
  refine Ops.q (q_not rfl) ?_
  refine Ops.q (q_mv rfl) ?_
  refine Ops.q (q_fa fo_56_1 rfl) ?_
  refine Ops.q (q_ldB isA_31 rfl .p2 rfl) ?_
  refine Ops.q (q_len esz_31 rfl) ?_
  refine Ops.q (q_cmp rfl rfl (c_neq (by decide))) ?_
  refine Ops.q (q_pickF rfl rfl) ?_
  refine Ops.to rfl ?_
  refine Cd.cond_f rfl ?_
  refine Cd.skipTo rfl ?_
  refine Cd.seq ?_
  refine Cd.seq ?_
  refine Cd.region ?_
  refine Ops.q (q_fa fo_56_1 rfl) ?_
  refine Ops.q (q_ldB isA_31 rfl .p2 rfl) ?_
  refine Ops.q (q_len esz_31 rfl) ?_
  refine Ops.q (q_mv rfl) ?_
  refine Ops.to rfl ?_
  refine Cd.block ?_
  refine Cd.lp (σ := Nat) (fun k => k ≤ 1) (fun k => [(2, .pointer (some ⟨b1, 0, none⟩)), (3, .pointer (some ⟨b2, 0, none⟩)), (24, .slice qa 1 qc), (25, .int .i64 1), (26, .int .i64 (k : Int))]) (fun k => [blk b2 40 [.slice na ns.length nc, .int .i64 ip, .slice sa ss.length sc], blk b1 56 [.int .i64 2, .slice qa 1 qc, .int .i64 (at_ : Int), .int .i64 ((at_ + 1 : Nat) : Int), .int .i64 1, .int .i64 1]]) (fun k => 1 - k) 0 (Nat.zero_le _) ⟨rfl, rfl, rfl, rfl, rfl, trivial⟩ (fun _ hs => (hs.pull .here).drop) ?_
  intro k hI
  refine Cd.seq ?_
  refine Cd.region ?_
  by_cases hk : (k : Int) < 1
  · refine Ops.q (q_cmp rfl rfl (c_lt hk)) ?_
    obtain rfl : k = 0 := by omega
    obtain ⟨qb, qo, rfl⟩ := RoL.pos hN eInt_len (xs := [(m : Int)]) (k := 0) rfl
    refine Ops.to rfl ?_
    refine Cd.seq ?_
    refine Cd.cond_t rfl ?_
    refine Cd.skipTo rfl ?_
    refine Cd.seq ?_
    refine Cd.block ?_
    refine Cd.seq ?_
    refine Cd.region ?_
    refine Ops.q (q_mv rfl) ?_
    refine Ops.q (q_ix (k := 0) esz_31 rfl rfl (by omega)) ?_
    refine Ops.q (q_ldR (v := .int .i64 (m : Int)) isA_3 rfl (RoL.at0 hN eInt_len (k := 0) rfl rfl)) ?_
    refine Ops.q (q_asg rfl) ?_
    refine Ops.q (q_asg rfl) ?_
    refine Ops.to rfl ?_
    refine Cd.block ?_
    refine Cd.seq ?_
    refine Cd.region ?_
    refine Ops.q (q_mv rfl) ?_
    refine Ops.q (q_fa fo_40_0 rfl) ?_
    refine Ops.q (q_ldB isA_37 rfl .here rfl) ?_
    refine Ops.q (q_len esz_37 rfl) ?_
    refine Ops.q (q_ar rfl rfl (a_sub (by omega))) ?_
    refine Ops.cp en_55 rfl (fun w hs => dT (vwithin_c (m : Int) 0 ((ns.length : Int) - 1) w) (by omega)) ?_
    refine Ops.q (q_not rfl) ?_
    refine Ops.q (q_asg rfl) ?_
    refine Ops.to rfl ?_
    refine Cd.cond_f rfl ?_
    refine Cd.seq ?_
    refine Cd.region ?_
    refine Ops.q (q_fa fo_56_1 rfl) ?_
    refine Ops.q (q_ldB isA_31 rfl (.there .here) rfl) ?_
    refine Ops.q (q_mv rfl) ?_
    refine Ops.q (q_cutHP (k := 0) el_31 sz_3 rfl rfl (Nat.zero_le _)) ?_
    refine Ops.q (q_mv rfl) ?_
    refine Ops.cp en_59 rfl (fun w hs => by have h9 := contains_c (some ⟨qb, qo, none⟩) qc [] (m : Int) w (fun j u hu => by simp at hu) (by decide); exact h9) ?_
    refine Ops.q (q_asg rfl) ?_
    refine Ops.to rfl ?_
    refine Cd.cond_f rfl ?_
    refine Cd.skipTo rfl ?_
    refine Cd.region ?_
    refine Ops.q (q_ar rfl rfl (a_inc (by first | omega | decide))) ?_
    refine Ops.q (q_mv rfl) ?_
    refine Ops.rnd (1) rfl (by omega) (by omega) ⟨rfl, rfl, rfl, rfl, rfl, trivial⟩ (fun _ hs => hs) 
  · refine Ops.q (q_cmp rfl rfl (c_nlt (by omega))) ?_
    refine Ops.to rfl ?_
    refine Cd.seq ?_
    refine Cd.cond_f rfl ?_
    refine Cd.exitTo rfl ?_
    refine Cd.seq ?_
    refine Cd.region ?_
    refine Ops.q (q_fa fo_56_2 rfl) ?_
    refine Ops.q (q_ldB isA_3 rfl (.there .here) rfl) ?_
    refine Ops.q (q_cmp rfl rfl (c_nlt (by omega))) ?_
    refine Ops.q (q_mv rfl) ?_
    refine Ops.q (q_fa fo_56_3 rfl) ?_
    refine Ops.q (q_ldB isA_3 rfl (.there .here) rfl) ?_
    refine Ops.q (q_fa fo_56_2 rfl) ?_
    refine Ops.q (q_ldB isA_3 rfl (.there .here) rfl) ?_
    refine Ops.q (q_cmp rfl rfl (c_nlt (by omega))) ?_
    refine Ops.q (q_pickF rfl rfl) ?_
    refine Ops.q (q_mv rfl) ?_
    refine Ops.q (q_fa fo_56_3 rfl) ?_
    refine Ops.q (q_ldB isA_3 rfl (.there .here) rfl) ?_
    refine Ops.q (q_cmp rfl rfl (c_ngt (by omega))) ?_
    refine Ops.q (q_pickF rfl rfl) ?_
    refine Ops.q (q_mv rfl) ?_
    refine Ops.q (q_fa fo_56_4 rfl) ?_
    refine Ops.q (q_ldB isA_3 rfl (.there .here) rfl) ?_
    refine Ops.q (q_cmp rfl rfl (c_nlt (by decide))) ?_
    refine Ops.q (q_pickF rfl rfl) ?_
    refine Ops.q (q_mv rfl) ?_
    refine Ops.q (q_fa fo_56_5 rfl) ?_
    refine Ops.q (q_ldB isA_3 rfl (.there .here) rfl) ?_
    refine Ops.q (q_cmp rfl rfl (c_nlt (by decide))) ?_
    refine Ops.q (q_pickF rfl rfl) ?_
    refine Ops.cp en_42 rfl (fun w hs => when0_c _ w) ?_
    refine Ops.q (q_asg rfl) ?_
    refine Ops.to rfl ?_
    refine Cd.rt (fn := Tryz.f40) [.int .i64 0] (by with_reducible repeat (first | exact rq_here | apply rq_then | apply rq_block)) rfl ⟨rfl, trivial⟩ ?_
    intro w' hs'
    exact ⟨rfl, hs'.none⟩
theorem claim1_c (b c : Nat) (qa : Option Addr) (qc at_ m : Nat) (na : Option Addr) (nc : Nat) (sa : Option Addr) (sc : Nat) (ns : List Prm) (ip : Int) (ss : List Syn) (w : World) (hb : Ro w (some ⟨b, 0, none⟩) [.int .i64 2, .slice qa 1 qc, .int .i64 (at_ : Int), .int .i64 ((at_ + 1 : Nat) : Int), .int .i64 1, .int .i64 1]) (hc : Ro w (some ⟨c, 0, none⟩) [.slice na ns.length nc, .int .i64 ip, .slice sa ss.length sc]) (hN : RoL w qa eInt [(m : Int)]) (hm : m < ns.length) (hn : ns.length ≤ 1000) (hat : at_ < 10000) : Calls Tryz.prog 39 [.pointer (some ⟨b, 0, none⟩), .pointer (some ⟨c, 0, none⟩)].toArray w fun e w' => e = .returned (.int .i64 0) ∧ Sat w w' [] := by
  refine fstart Tryz.func39 rfl rfl (Sat.nil w) ?_
  refine Cd.seq ?_
  refine Cd.region ?_
  refine Ops.q (q_asg rfl) ?_
  refine Ops.to rfl ?_
  refine Cd.seq ?_
  refine Cd.region ?_
  refine Ops.q (q_ldRN [.int .i64 2, .slice qa 1 qc, .int .i64 (at_ : Int), .int .i64 ((at_ + 1 : Nat) : Int), .int .i64 1, .int .i64 1] isA_56 sz_56 rfl (fun j u hu => Ro.at hb hu)) ?_
  refine Ops.q (q_ldRN [.slice na ns.length nc, .int .i64 ip, .slice sa ss.length sc] isA_40 sz_40 rfl (fun j u hu => Ro.at hc hu)) ?_
  refine Ops.cp en_40 rfl (fun w hs => claim_c qa qc at_ m na nc sa sc ns ip ss w (hN.later hs.below) hm hn hat) ?_
  refine Ops.q (q_asg rfl) ?_
  refine Ops.to rfl ?_
  refine Cd.rt (fn := Tryz.f39) [.int .i64 0] (by with_reducible repeat (first | exact rq_here | apply rq_then | apply rq_block)) rfl ⟨rfl, trivial⟩ ?_
  intro w' hs'
  exact ⟨rfl, hs'.none⟩
theorem claim2_c (b c : Nat) (qa : Option Addr) (qc at_ : Nat) (w : World) (hb : Ro w (some ⟨b, 0, none⟩) [.int .i64 2, .slice qa 1 qc, .int .i64 (at_ : Int), .int .i64 ((at_ + 1 : Nat) : Int), .int .i64 1, .int .i64 1]) (hc : Ro w (some ⟨c, 0, none⟩) [.int .i64 ((at_ + 1 : Nat) : Int)]) : Calls Tryz.prog 41 [.pointer (some ⟨b, 0, none⟩), .pointer (some ⟨c, 0, none⟩)].toArray w fun e w' => e = .returned (.int .i64 0) ∧ Sat w w' [] := by
  refine fstart Tryz.func41 rfl rfl (Sat.nil w) ?_
  refine Cd.seq ?_
  refine Cd.region ?_
  refine Ops.q (q_asg rfl) ?_
  refine Ops.to rfl ?_
  refine Cd.seq ?_
  refine Cd.region ?_
  refine Ops.q (q_fa fo_56_3 rfl) ?_
  refine Ops.q (q_ldR (v := .int .i64 ((at_ + 1 : Nat) : Int)) isA_3 rfl (Ro.at hb (j := 3) rfl)) ?_
  refine Ops.q (q_ldR (v := .int .i64 ((at_ + 1 : Nat) : Int)) isA_3 rfl (by simpa using Ro.at hc (j := 0) rfl)) ?_
  refine Ops.q (q_cmp rfl rfl (c_ngt (by omega))) ?_
  refine Ops.cp en_42 rfl (fun w hs => when0_c _ w) ?_
  refine Ops.q (q_asg rfl) ?_
  refine Ops.to rfl ?_
  refine Cd.rt (fn := Tryz.f41) [.int .i64 0] (by with_reducible repeat (first | exact rq_here | apply rq_then | apply rq_block)) rfl ⟨rfl, trivial⟩ ?_
  intro w' hs'
  exact ⟨rfl, hs'.none⟩
end Go.Proofs.YtilcdghliigngaaGreatDoor
namespace Go.Proofs.YtilcdghliigngaaGreatDoorGl
open Go.RowKit
set_option linter.unusedVariables false
set_option linter.unusedSimpArgs false
def vobj (v : Value) : Obj := .map #[{ key := .int .i64 0, val := v, born := 0 }] 1
def VM (w : World) (m : Nat) (v : Value) : Prop := w.heap[m]? = some (vobj v)
theorem VM.later {w w' : World} {m : Nat} {v : Value} (h : VM w m v) (hb : Below w.heap.size w w') : VM w' m v := (hb.block m (Array.getElem?_eq_some_iff.1 h).1).trans h
def nmap (b : Nat) : Atom where
  P := fun w S => w.heap[b]? = some (.map #[] 0) ∧ ∀ k, S k ↔ k = b
  loc := fun {w w' S} h hs => ⟨(hs b ((h.2 b).2 rfl)).trans h.1, h.2⟩
  lt := fun {w S k} h hk => by obtain ⟨h1, h2⟩ := h; rw [(h2 _).1 hk]; exact (Array.getElem?_eq_some_iff.1 h1).1
def vmap (b : Nat) (v : Value) : Atom where
  P := fun w S => VM w b v ∧ ∀ k, S k ↔ k = b
  loc := fun {w w' S} h hs => ⟨(hs b ((h.2 b).2 rfl)).trans h.1, h.2⟩
  lt := fun {w S k} h hk => by obtain ⟨h1, h2⟩ := h; rw [(h2 _).1 hk]; exact (Array.getElem?_eq_some_iff.1 h1).1
def itr (it b : Nat) (seen : Bool) : Atom where
  P := fun w S => w.heap[it]? = some (.mapIter (some b) 1 (if seen then #[0] else #[]) 1) ∧ ∀ k, S k ↔ k = it
  loc := fun {w w' S} h hs => ⟨(hs it ((h.2 it).2 rfl)).trans h.1, h.2⟩
  lt := fun {w S k} h hk => by obtain ⟨h1, h2⟩ := h; rw [(h2 _).1 hk]; exact (Array.getElem?_eq_some_iff.1 h1).1
section
variable {P : Program} {r : Option Nat} {ops : Array Oper} {Q : Exit → Act → World → Prop} {w0 : World} {n : Nat} {D : List Deferred} {rest : List Oper} {L : Env} {A : List Atom}
variable {t : Nat} {ty : TypeId} {pos : String} {af : Array Edge} {g : Option (Nat × Bool)}
theorem Ops.mkmN {T : TypeId} (h : ∀ b, Ops P r ops Q w0 n D rest ((t, .map (some b)) :: L) (nmap b :: A))
    (hg : gd ops L ⟨some t, .makeMap T none, ty, pos, af, g⟩ = some true := by rfl) (ht : Nat.blt t n = true := by rfl) :
    Ops P r ops Q w0 n D (⟨some t, .makeMap T none, ty, pos, af, g⟩ :: rest) L A :=
  Ops.val (v := fun b => .map (some b)) (A' := fun b => nmap b :: A) hg rfl ht rfl (fun a w hk hs => by
    refine ⟨w.heap.size, w.alloc (.map #[] 0), by simp [execOp, Instr.makeMap, newObj, Sem.run], ?_⟩
    exact hs.add (Below.alloc (Below.refl _ _) (Nat.le_refl _) _) (S := fun k => k = w.heap.size) ⟨heap_alloc_new w _, fun _ => Iff.rfl⟩ (fun _ hk => by omega)) h
theorem run_mapNewN {w : World} {T K E : TypeId} {kd : IntKind} {b : Nat} {v : Value} (hT : mpT P T = some (K, E)) (hK : iK P K = some kd) (hb : w.heap[b]? = some (.map #[] 0)) :
    (Instr.mapUpdate T (.map (some b)) (.int .i64 0) v).run P w = .ok () { w with heap := w.heap.setIfInBounds b (vobj v) } := by
  have he : ents (#[] : Array MapEntry).toList [] := by simp [ents]
  simp only [Instr.mapUpdate, Sem.run_bind, run_underlying (mpT_u hT), Result.andThen_ok, MapKept.run_getObj_map hb, run_checkInt hK, run_findInt hK he, findI]
  exact MapKept.run_setObj_map _ hb
theorem Ops.mpuN {T K E : TypeId} {kd : IntKind} {x y z : Operand} {b : Nat} {v : Value} {A' : List Atom} (hT : mpT P T = some (K, E)) (hK : iK P K = some kd) (hx : ev L x = some (.map (some b))) (hy : ev L y = some (.int .i64 0)) (hz : ev L z = some v)
    (hu : Upd A (nmap b) (vmap b v) A') (h : Ops P r ops Q w0 n D rest L A')
    (hg : gd ops L ⟨none, .mapUpdate T x y z, ty, pos, af, g⟩ = some true := by rfl) :
    Ops P r ops Q w0 n D (⟨none, .mapUpdate T x y z, ty, pos, af, g⟩ :: rest) L A :=
  Ops.act (α := Unit) (A' := fun _ => A') hg rfl rfl (fun a w hk hs => by
    obtain ⟨R, hp, hp'⟩ := hu.pull
    obtain ⟨S, hS, _, hgo⟩ := (hs.pull hp).step
    obtain ⟨hb, hSb⟩ := hS
    have hr := run_mapNewN (P := P) (v := v) hT hK hb
    refine ⟨(), { w with heap := w.heap.setIfInBounds b (vobj v) }, by simp only [execOp, hk.ev hx, hk.ev hy, hk.ev hz, Sem.run_bind, hr, Result.andThen_ok, Sem.run_pure], Sat.push ?_ hp'⟩
    obtain ⟨h1, h2⟩ := MapKept.heap_set (o' := vobj v) hb
    exact hgo (S' := fun k => k = b) ⟨h1, fun _ => Iff.rfl⟩ (fun k hk => .inl ((hSb k).2 hk)) rfl rfl rfl (by simp) (fun k _ hk => h2 k (fun e => hk ((hSb k).2 e)))) (fun _ => h)
theorem Ops.insN {T K E : TypeId} {kd : IntKind} {x y z : Operand} {b : Nat} {v : Value} {A' : List Atom} (hT : mpT P T = some (K, E)) (hK : iK P K = some kd) (hx : ev L x = some (.map (some b))) (hy : ev L y = some (.int .i64 0)) (hz : ev L z = some v)
    (hu : Upd A (nmap b) (vmap b v) A') (h : Ops P r ops Q w0 n D rest L A')
    (hg : gd ops L ⟨none, .insert T x y z, ty, pos, af, g⟩ = some true := by rfl) :
    Ops P r ops Q w0 n D (⟨none, .insert T x y z, ty, pos, af, g⟩ :: rest) L A :=
  Ops.act (α := Unit) (A' := fun _ => A') hg rfl rfl (fun a w hk hs => by
    obtain ⟨R, hp, hp'⟩ := hu.pull
    obtain ⟨S, hS, _, hgo⟩ := (hs.pull hp).step
    obtain ⟨hb, hSb⟩ := hS
    have hr := run_mapNewN (P := P) (v := v) hT hK hb
    refine ⟨(), { w with heap := w.heap.setIfInBounds b (vobj v) }, by simp only [execOp, hk.ev hx, hk.ev hy, hk.ev hz, Sem.run_bind, hr, Result.andThen_ok, Sem.run_pure], Sat.push ?_ hp'⟩
    obtain ⟨h1, h2⟩ := MapKept.heap_set (o' := vobj v) hb
    exact hgo (S' := fun k => k = b) ⟨h1, fun _ => Iff.rfl⟩ (fun k hk => .inl ((hSb k).2 hk)) rfl rfl rfl (by simp) (fun k _ hk => h2 k (fun e => hk ((hSb k).2 e)))) (fun _ => h)
theorem q_lookN {T K E : TypeId} {kd : IntKind} {x y : Operand} {b : Nat} {k : Int} {v : Value} {A' : List Atom} (hT : mpT P T = some (K, E)) (hK : iK P K = some kd) (hx : ev L x = some (.map (some b))) (hy : ev L y = some (.int .i64 k))
    (hp : Pull A (nmap b) A') (hv : ∀ w, (zeroValue E).run P w = .ok v w) : Qv P w0 n D L A (.lookup T x y true) (.tuple [v, .bool false].toArray) := fun a w hk hs' _ _ _ _ _ => ⟨by
    obtain ⟨S, h1, _⟩ := hs'.mem hp
    have he : ents (#[] : Array MapEntry).toList [] := by simp [ents]
    simp only [execOp, hk.ev hx, hk.ev hy, Instr.lookup, Sem.run_bind, run_underlying (mpT_u hT), Result.andThen_ok, MapKept.run_getObj_map h1, Sem.run_pure, run_checkInt hK, run_findInt hK he, findI, hv]
    simp, rfl⟩
theorem Ops.rngV {T K E : TypeId} {x : Operand} {b : Nat} {v : Value} (hT : mpT P T = some (K, E)) (hx : ev L x = some (.map (some b))) (hM : ∀ w, Sat w0 w A → VM w b v)
    (h : ∀ it, Ops P r ops Q w0 n D rest ((t, .pointer (some ⟨it, 0, none⟩)) :: L) (itr it b false :: A))
    (hg : gd ops L ⟨some t, .range T x, ty, pos, af, g⟩ = some true := by rfl) (ht : Nat.blt t n = true := by rfl) :
    Ops P r ops Q w0 n D (⟨some t, .range T x, ty, pos, af, g⟩ :: rest) L A :=
  Ops.val (v := fun it => .pointer (some ⟨it, 0, none⟩)) (A' := fun it => itr it b false :: A) hg rfl ht rfl (fun a w hk hs => by
    have hb : w.heap[b]? = some (.map #[{ key := .int .i64 0, val := v, born := 0 }] 1) := hM w hs
    have hr : (Instr.range T (.map (some b))).run P w = .ok (.pointer (some ⟨w.heap.size, 0, none⟩)) (w.alloc (.mapIter (some b) 1 #[] 1)) := by
      simp [Instr.range, run_underlying (mpT_u hT), MapKept.run_getObj_map hb, newObj, Sem.run]
    refine ⟨w.heap.size, w.alloc (.mapIter (some b) 1 #[] 1), by simp only [execOp, hk.ev hx, Sem.run_bind, hr, Result.andThen_ok, Sem.run_pure], ?_⟩
    exact hs.add (Below.alloc (Below.refl _ _) (Nat.le_refl _) _) (S := fun k => k = w.heap.size) ⟨by simpa using heap_alloc_new w _, fun _ => Iff.rfl⟩ (fun _ hk => by omega)) h
theorem Ops.nxtV1 {x : Operand} {it b : Nat} {v : Value} {A' : List Atom} (hx : ev L x = some (.pointer (some ⟨it, 0, none⟩))) (hM : ∀ w, Sat w0 w A → VM w b v) (hu : Upd A (itr it b false) (itr it b true) A')
    (h : Ops P r ops Q w0 n D rest ((t, .tuple [.bool true, .int .i64 0, v].toArray) :: L) A')
    (hg : gd ops L ⟨some t, .next x false, ty, pos, af, g⟩ = some true := by rfl) (ht : Nat.blt t n = true := by rfl) :
    Ops P r ops Q w0 n D (⟨some t, .next x false, ty, pos, af, g⟩ :: rest) L A :=
  Ops.val (α := Unit) (v := fun _ => .tuple [.bool true, .int .i64 0, v].toArray) (A' := fun _ => A') hg rfl ht rfl (fun a w hk hs => by
    have hb : w.heap[b]? = some (.map #[{ key := .int .i64 0, val := v, born := 0 }] 1) := hM w hs
    obtain ⟨R, hp, hp'⟩ := hu.pull
    obtain ⟨S, hS, _, hgo⟩ := (hs.pull hp).step
    obtain ⟨hit, hSb⟩ := hS
    simp only [Bool.false_eq_true, if_false] at hit
    have hr : (Instr.next (.pointer (some ⟨it, 0, none⟩)) false ty).run P w = .ok (.tuple [.bool true, .int .i64 0, v].toArray) { w with heap := w.heap.setIfInBounds it (.mapIter (some b) 1 #[0] 1) } := by
      simp [Instr.next, getObj, Sem.run_bind, Sem.run, hit, hb, Result.andThen, List.filter_cons, choose, Question.forced, setObj]
    refine ⟨(), { w with heap := w.heap.setIfInBounds it (.mapIter (some b) 1 #[0] 1) }, by simp only [execOp, hk.ev hx, Sem.run_bind, hr, Result.andThen_ok, Sem.run_pure], Sat.push ?_ hp'⟩
    obtain ⟨h1, h2⟩ := MapKept.heap_set (o' := .mapIter (some b) 1 #[0] 1) hit
    exact hgo (S' := fun q => q = it) ⟨by simpa using h1, fun _ => Iff.rfl⟩ (fun q hq => .inl ((hSb q).2 hq)) rfl rfl rfl (by simp) (fun q _ hq => h2 q (fun e => hq ((hSb q).2 e)))) (fun _ => h)
theorem Ops.nxtV0 {x : Operand} {it b : Nat} {v : Value} {A' : List Atom} (hx : ev L x = some (.pointer (some ⟨it, 0, none⟩))) (hM : ∀ w, Sat w0 w A → VM w b v) (hp : Pull A (itr it b true) A')
    (h : Ops P r ops Q w0 n D rest ((t, .tuple [.bool false].toArray) :: L) A)
    (hg : gd ops L ⟨some t, .next x false, ty, pos, af, g⟩ = some true := by rfl) (ht : Nat.blt t n = true := by rfl) :
    Ops P r ops Q w0 n D (⟨some t, .next x false, ty, pos, af, g⟩ :: rest) L A :=
  Ops.val (α := Unit) (v := fun _ => .tuple [.bool false].toArray) (A' := fun _ => A) hg rfl ht rfl (fun a w hk hs => by
    have hb : w.heap[b]? = some (.map #[{ key := .int .i64 0, val := v, born := 0 }] 1) := hM w hs
    obtain ⟨S, hit, hSb⟩ := hs.mem hp
    simp only [if_true] at hit
    have hr : (Instr.next (.pointer (some ⟨it, 0, none⟩)) false ty).run P w = .ok (.tuple [.bool false].toArray) w := by
      simp [Instr.next, getObj, Sem.run_bind, Sem.run, hit, hb, Result.andThen, choose, Question.forced]
    exact ⟨(), w, by simp only [execOp, hk.ev hx, Sem.run_bind, hr, Result.andThen_ok, Sem.run_pure], hs⟩) (fun _ => h)
theorem q_entV {x : Operand} {it b : Nat} {v : Value} {A' : List Atom} (hx : ev L x = some (.pointer (some ⟨it, 0, none⟩))) (hM : ∀ w, Sat w0 w A → VM w b v) (hp : Pull A (itr it b true) A') : Qv P w0 n D L A (.entry x) (.tuple [.int .i64 0, v].toArray) := fun a w hk hs' _ _ _ _ _ => ⟨by
    have hb : w.heap[b]? = some (.map #[{ key := .int .i64 0, val := v, born := 0 }] 1) := hM w hs'
    obtain ⟨S, hit, hSb⟩ := hs'.mem hp
    simp only [if_true] at hit
    have := run_entry_at (P := P) w it b 1 #[] #[{ key := .int .i64 0, val := v, born := 0 }] 1 { key := .int .i64 0, val := v, born := 0 } (by simpa using hit) hb (by simp) (by simp)
    simp only [execOp, hk.ev hx, Sem.run_bind, this, Result.andThen_ok, Sem.run_pure], rfl⟩
end
end Go.Proofs.YtilcdghliigngaaGreatDoorGl
namespace Go.Proofs.YtilcdghliigngaaGreatDoor
open Go.RowKit Go.Proofs.YtilcdghliigngaaGreatDoorGl Go.Proofs.YtilcdghliigngaaGreatDoorPm
set_option linter.unusedVariables false
set_option linter.unusedSimpArgs false
theorem Cd.rndExit {P : Program} {r : Option Nat} {Q : Exit → Act → World → Prop} {w0 : World} {n : Nat} {D : List Deferred} {L : Env} {A : List Atom} {id : Nat} {σ : Type} {I : σ → Prop} {Ls : σ → Env} {As : σ → List Atom} {μ : σ → Nat} {m : Nat} (s' : σ) (hq : Q (.exit id) = Rnd I Ls As μ w0 n D m) (hI : I s') (hm : μ s' < m) (hL : Sub (Ls s') L) (hA : ∀ w, Sat w0 w A → Sat w0 w (As s')) : Cd P r (.exit id) Q w0 n D L A :=
  Cd.exit (fun _ w hk hs => by rw [hq]; exact ⟨s', hI, hm, hk.sub hL, hA w hs⟩)
abbrev Cel := Prm × Option Nat
def eCel (x : Cel) : List Value := [.int .i64 x.1.lk, .int .i64 x.1.leak, .int .i64 x.1.bias, .int .i64 x.1.th, .int .i64 x.1.rk, .int .i64 x.1.rs, .int .i64 x.1.fl, .int .i64 x.1.rest, .map x.2]
theorem eCel_len (x : Cel) : (eCel x).length = 9 := rfl
abbrev sp (x : Int) : Value := .agg [.int .i64 x, .int .i64 x].toArray
theorem gate_ok {h : Int} (hh : 1 ≤ h ∧ h ≤ 1048576) : nCheck (gateP h) = 0 := by
  unfold nCheck
  simp [gateP, okP, wi, limP]
  omega
theorem leak_gate (h v : Int) : leakP (gateP h) v = 0 := by
  simp only [gateP, leakP, show ¬ ((2 : Int) = 0) by decide, show ¬ ((2 : Int) = 1) by decide, if_false]
  rw [Int.mul_tdiv_cancel v (by decide)]; omega
theorem mpT_148 : mpT Tryz.prog 148 = some (3, 147) := by kernel_rfl
theorem zv_147 : zvT Tryz.prog 147 = some (.agg [.int .i64 0, .int .i64 0].toArray) := by kernel_rfl
def sI : Option Bool → Bool | some false => true | _ => false
def sF : Option Bool → Bool | some true => true | _ => false
def sA (nb : Nat) (x y : Value) : Option Bool → Atom | none => nmap nb | some false => vmap nb x | some true => vmap nb y
def sS : Option Bool → Bool | none => false | _ => true
def sM : Option Bool → Nat | none => 1 | _ => 0
theorem put_c (mb nb : Nat) (a b : Int) (w0 w : World) (F : List Atom) (hs : Sat w0 w (blk mb 148 [.map (some nb)] :: nmap nb :: F)) : Calls Tryz.prog 106 [.int .i64 0, .agg [.int .i64 a, .int .i64 b].toArray, .pointer (some ⟨mb, 0, none⟩)].toArray w fun e w' => e = .returned (.tuple #[]) ∧ Sat w0 w' (blk mb 148 [.map (some nb)] :: vmap nb (.agg [.int .i64 a, .int .i64 b].toArray) :: F) := by
  refine fstart Tryz.func106 rfl rfl hs ?_
  refine Cd.seq ?_
  refine Cd.region ?_
  refine Ops.box [.int .i64 a, .int .i64 b] rfl rfl ?_
  intro b1
  refine Ops.to rfl ?_
  refine Cd.seq ?_
  refine Cd.seq ?_
  refine Cd.region ?_
  refine Ops.q (q_ldB isA_148 rfl (.there .here) rfl) ?_
  refine Ops.q (q_mv rfl) ?_
  refine Ops.q (q_lookN (v := .agg [.int .i64 0, .int .i64 0].toArray) mpT_148 iK_3 rfl rfl .p2 (fun w => run_zv zv_147 w)) ?_
  refine Ops.q (q_mv rfl) ?_
  refine Ops.q (q_ext rfl rfl) ?_
  refine Ops.q (q_ext rfl rfl) ?_
  refine Ops.alc [.int .i64 0, .int .i64 0] zc_147 ?_
  intro b2
  refine Ops.stB [.int .i64 0, .int .i64 0] [.int .i64 0, .int .i64 0] sz_147 rfl rfl rfl (one rfl) .here rfl rfl ?_
  refine Ops.q (q_asg rfl) ?_
  refine Ops.to rfl ?_
  refine Cd.seq ?_
  refine Cd.region ?_
  refine Ops.q (q_mv rfl) ?_
  refine Ops.to rfl ?_
  refine Cd.cond_f rfl ?_
  refine Cd.skipTo rfl ?_
  refine Cd.region ?_
  refine Ops.q (q_ldB isA_148 rfl .p2 rfl) ?_
  refine Ops.q (q_mv rfl) ?_
  refine Ops.q (q_ldBN [.int .i64 a, .int .i64 b] isA_147 sz_147 rfl (.there .here) rfl) ?_
  refine Ops.mpuN mpT_148 iK_3 rfl rfl rfl .p3 ?_
  refine Ops.fin rfl rfl ?_
  intro w' hs'
  exact ⟨rfl, ((((hs'.pull .p3).pull .p3).pull .p2).drop.pull .p2).drop⟩
theorem vtick_c (cb cc i m : Nat) (ces : List Cel) (h v x : Int) (w0 w : World) (F : List Atom) (hi : ces[i]? = some (gateP h, some m)) (hl : ces.length ≤ 1000) (hh : 1 ≤ h ∧ h ≤ 1048576) (hv : 0 ≤ v ∧ v ≤ 1) (hx : 0 ≤ x ∧ x ≤ 1000000) (hM : ∀ w, Sat w0 w F → VM w m (sp v)) (hs : Sat w0 w (row (some ⟨cb, 0, none⟩) cc 150 9 ces.length (ces.flatMap eCel) :: F)) : Calls Tryz.prog 80 [.pointer (some ⟨cb, 0 + i * 9, none⟩), sp x].toArray w fun e w' => ∃ nb, e = .returned (.int .i64 (if h ≤ x then 2 else 0)) ∧ Sat w0 w' (row (some ⟨cb, 0, none⟩) cc 150 9 ces.length ((ces.set i (gateP h, some nb)).flatMap eCel) :: vmap nb (sp (if h ≤ x then 0 else x)) :: F) := by
  refine fstart Tryz.func80 rfl rfl hs ?_
  refine Cd.seq ?_
  refine Cd.region ?_
  refine Ops.box [.int .i64 x, .int .i64 x] rfl rfl ?_
  intro b1
  refine Ops.q (q_asg rfl) ?_
  refine Ops.to rfl ?_
  refine Cd.seq ?_
  refine Cd.region ?_
  refine Ops.mkmN ?_
  intro nb
  refine Ops.alc [.map none] zc_148 ?_
  intro b2
  refine Ops.stB [.map (some nb)] [.map (some nb)] sz_148 rfl rfl rfl (one rfl) .here rfl rfl ?_
  refine Ops.to rfl ?_
  refine Cd.seq ?_
  refine Cd.region ?_
  refine Ops.q (q_mkf rfl rfl) ?_
  refine Ops.q (q_asg rfl) ?_
  refine Ops.to rfl ?_
  refine Cd.seq ?_
  refine Cd.region ?_
  refine Ops.q (q_asg rfl) ?_
  refine Ops.q (q_asg rfl) ?_
  refine Ops.to rfl ?_
  refine Cd.seq ?_
  refine Cd.seq ?_
  refine Cd.region ?_
  refine Ops.q (q_mv rfl) ?_
  refine Ops.q (q_nck rfl) ?_
  refine Ops.q (q_fa fo_150_1 rfl) ?_
  refine Ops.q (q_ldO (v := .map (some m)) isA_148 rfl .p3 (by rw [Nat.zero_add]; exact fm_get eCel_len ces i 8 _ _ hi rfl)) ?_
  refine Ops.rngV mpT_148 rfl (fun _ hs => hM _ ((((hs).drop).drop).drop).drop) ?_
  intro it
  refine Ops.to rfl ?_
  refine Cd.block ?_
  refine Cd.lp (σ := Option Bool) (fun s => ∀ f, s = some f → f = decide (h ≤ x)) (fun s => [(0, .pointer (some ⟨cb, 0 + i * 9, none⟩)), (3, .pointer (some ⟨b1, 0, none⟩)), (4, .int .i64 0), (5, .pointer (some ⟨b2, 0, none⟩)), (6, .func (.func 106) #[] #[.pointer (some ⟨b2, 0, none⟩)]), (22, .pointer (some ⟨it, 0, none⟩)), (7, .bool (sI s)), (8, .bool (sF s))]) (fun s => itr it m (sS s) :: sA nb (.agg [.int .i64 (max 0 (min 1048576 ((0 + x) + 0))), .int .i64 (min (max 0 (min 1048576 ((0 + x) + 0))) (h - 1))].toArray) (sp 0) s :: blk b2 148 [.map (some nb)] :: blk b1 147 [.int .i64 x, .int .i64 x] :: row (some ⟨cb, 0, none⟩) cc 150 9 ces.length (ces.flatMap eCel) :: F) sM none (by simp) ⟨rfl, rfl, rfl, rfl, rfl, rfl, rfl, rfl, trivial⟩ (fun _ hs => (((((hs.pull .p4).pull .p4).pull .p3).pull .p4).pull .p4)) ?_
  intro s hI
  rcases s with _ | (_ | _)
  · change Cd _ _ _ _ _ _ _ [(0, .pointer (some ⟨cb, 0 + i * 9, none⟩)), (3, .pointer (some ⟨b1, 0, none⟩)), (4, .int .i64 0), (5, .pointer (some ⟨b2, 0, none⟩)), (6, .func (.func 106) #[] #[.pointer (some ⟨b2, 0, none⟩)]), (22, .pointer (some ⟨it, 0, none⟩)), (7, .bool false), (8, .bool false)] (itr it m false :: nmap nb :: blk b2 148 [.map (some nb)] :: blk b1 147 [.int .i64 x, .int .i64 x] :: row (some ⟨cb, 0, none⟩) cc 150 9 ces.length (ces.flatMap eCel) :: F)
    refine Cd.seq ?_
    refine Cd.region ?_
    refine Ops.nxtV1 rfl (fun _ hs => hM _ (((((hs).drop).drop).drop).drop).drop) .here ?_
    refine Ops.q (q_ext rfl rfl) ?_
    refine Ops.to rfl ?_
    refine Cd.seq ?_
    refine Cd.cond_t rfl ?_
    refine Cd.skipTo rfl ?_
    refine Cd.block ?_
    refine Cd.seq ?_
    refine Cd.region ?_
    refine Ops.q (q_entV rfl (fun _ hs => hM _ (((((hs).drop).drop).drop).drop).drop) .here) ?_
    refine Ops.q (q_ext rfl rfl) ?_
    refine Ops.q (q_ext rfl rfl) ?_
    refine Ops.alc [.int .i64 0, .int .i64 0] zc_147 ?_
    intro b3
    refine Ops.q (q_asg rfl) ?_
    refine Ops.stB [.int .i64 v, .int .i64 v] [.int .i64 v, .int .i64 v] sz_147 rfl rfl rfl (one rfl) .here rfl rfl ?_
    refine Ops.to rfl ?_
    refine Cd.seq ?_
    refine Cd.seq ?_
    refine Cd.region ?_
    refine Ops.q (q_mv rfl) ?_
    refine Ops.q (q_cmp rfl rfl (c_ngt (by decide))) ?_
    refine Ops.to rfl ?_
    refine Cd.cond_f rfl ?_
    refine Cd.skipTo rfl ?_
    refine Cd.seq ?_
    refine Cd.draw rfl (by kernel_rfl) (.cons .p5 (.cons .here .nil)) ?_
    intro F4 St5 hP6 hF7 hR8
    refine Dr.q (i := 0) hP6 rfl (by kernel_rfl) (q_mv rfl) ?_
    refine Dr.q (i := 1) hP6 rfl (by kernel_rfl) (q_nck rfl) ?_
    refine Dr.q (i := 2) hP6 rfl (by kernel_rfl) (q_fa fo_150_0 rfl) ?_
    refine Dr.q (i := 3) hP6 rfl (by kernel_rfl) (q_ldON [.int .i64 2, .int .i64 256, .int .i64 0, .int .i64 h, .int .i64 0, .int .i64 0, .int .i64 0, .int .i64 0] isA_62 sz_62 rfl .here (by rw [Nat.zero_add]; exact fm_part eCel_len (o := 0) (z := 8) (by decide) hi)) ?_
    refine Dr.q (i := 4) hP6 rfl (by kernel_rfl) (q_fa fo_147_0 rfl) ?_
    refine Dr.q (i := 5) hP6 rfl (by kernel_rfl) (q_ldB isA_3 rfl (.there .here) rfl) ?_
    refine Dr.e (i := 6) rfl (by kernel_rfl) ?_
    refine Ops.cp en_108 rfl (fun w hs => by have h9 := leak_c (gateP h) v w (gate_ok hh) (by unfold wi; omega); rw [leak_gate] at h9; exact h9) ?_
    refine Dr.back (fun _ hs => hF7 .here hs) ?_
    refine Dr.q (i := 7) hP6 rfl (by kernel_rfl) (q_mv rfl) ?_
    refine Dr.q (i := 8) hP6 rfl (by kernel_rfl) (q_ext rfl rfl) ?_
    refine Dr.q (i := 9) hP6 rfl (by kernel_rfl) (q_ext rfl rfl) ?_
    refine Dr.q (i := 10) hP6 rfl (by kernel_rfl) (q_asg rfl) ?_
    refine Dr.tail 11 (by kernel_rfl) ?_
    refine Ops.sat ?_ (fun _ hs => hR8 .here hs)
    refine Ops.q (q_asg rfl) ?_
    refine Ops.to rfl ?_
    refine Cd.seq ?_
    refine Cd.draw rfl (by kernel_rfl) (.cons .here (.cons .here .nil)) ?_
    intro F9 St10 hP11 hF12 hR13
    refine Dr.q (i := 0) hP11 rfl (by kernel_rfl) (q_mv rfl) ?_
    refine Dr.q (i := 1) hP11 rfl (by kernel_rfl) (q_nck rfl) ?_
    refine Dr.q (i := 2) hP11 rfl (by kernel_rfl) (q_fa fo_150_0 rfl) ?_
    refine Dr.q (i := 3) hP11 rfl (by kernel_rfl) (q_ldON [.int .i64 2, .int .i64 256, .int .i64 0, .int .i64 h, .int .i64 0, .int .i64 0, .int .i64 0, .int .i64 0] isA_62 sz_62 rfl .here (by rw [Nat.zero_add]; exact fm_part eCel_len (o := 0) (z := 8) (by decide) hi)) ?_
    refine Dr.q (i := 4) hP11 rfl (by kernel_rfl) (q_fa fo_147_1 rfl) ?_
    refine Dr.q (i := 5) hP11 rfl (by kernel_rfl) (q_ldB isA_3 rfl (.there .here) rfl) ?_
    refine Dr.e (i := 6) rfl (by kernel_rfl) ?_
    refine Ops.cp en_108 rfl (fun w hs => by have h9 := leak_c (gateP h) v w (gate_ok hh) (by unfold wi; omega); rw [leak_gate] at h9; exact h9) ?_
    refine Dr.back (fun _ hs => hF12 .here hs) ?_
    refine Dr.q (i := 7) hP11 rfl (by kernel_rfl) (q_mv rfl) ?_
    refine Dr.q (i := 8) hP11 rfl (by kernel_rfl) (q_ext rfl rfl) ?_
    refine Dr.q (i := 9) hP11 rfl (by kernel_rfl) (q_ext rfl rfl) ?_
    refine Dr.q (i := 10) hP11 rfl (by kernel_rfl) (q_asg rfl) ?_
    refine Dr.tail 11 (by kernel_rfl) ?_
    refine Ops.sat ?_ (fun _ hs => hR13 .here hs)
    refine Ops.q (q_asg rfl) ?_
    refine Ops.to rfl ?_
    refine Cd.seq ?_
    refine Cd.draw rfl (by kernel_rfl) (.cons .here (.cons .p4 .nil)) ?_
    intro F14 St15 hP16 hF17 hR18
    refine Dr.q (i := 0) hP16 rfl (by kernel_rfl) (q_mv rfl) ?_
    refine Dr.q (i := 1) hP16 rfl (by kernel_rfl) (q_nck rfl) ?_
    refine Dr.q (i := 2) hP16 rfl (by kernel_rfl) (q_fa fo_150_0 rfl) ?_
    refine Dr.q (i := 3) hP16 rfl (by kernel_rfl) (q_fa fo_62_6 rfl) ?_
    refine Dr.q (i := 4) hP16 rfl (by kernel_rfl) (q_ldO (v := .int .i64 0) isA_3 rfl .here (fm_at eCel_len hi rfl)) ?_
    refine Dr.q (i := 5) hP16 rfl (by kernel_rfl) (q_mv rfl) ?_
    refine Dr.q (i := 6) hP16 rfl (by kernel_rfl) (q_fa fo_147_0 rfl) ?_
    refine Dr.q (i := 7) hP16 rfl (by kernel_rfl) (q_ldB isA_3 rfl (.there .here) rfl) ?_
    refine Dr.q (i := 8) hP16 rfl (by kernel_rfl) (q_ar rfl rfl (a_add (by omega))) ?_
    refine Dr.q (i := 9) hP16 rfl (by kernel_rfl) (q_mv rfl) ?_
    refine Dr.q (i := 10) hP16 rfl (by kernel_rfl) (q_nck rfl) ?_
    refine Dr.q (i := 11) hP16 rfl (by kernel_rfl) (q_fa fo_150_0 rfl) ?_
    refine Dr.q (i := 12) hP16 rfl (by kernel_rfl) (q_fa fo_62_2 rfl) ?_
    refine Dr.q (i := 13) hP16 rfl (by kernel_rfl) (q_ldO (v := .int .i64 0) isA_3 rfl .here (fm_at eCel_len hi rfl)) ?_
    refine Dr.q (i := 14) hP16 rfl (by kernel_rfl) (q_ar rfl rfl (a_add (by omega))) ?_
    refine Dr.q (i := 15) hP16 rfl (by kernel_rfl) (q_min rfl rfl) ?_
    refine Dr.q (i := 16) hP16 rfl (by kernel_rfl) (q_max rfl rfl) ?_
    refine Dr.q (i := 17) hP16 rfl (by kernel_rfl) (q_mv rfl) ?_
    refine Dr.q (i := 18) hP16 rfl (by kernel_rfl) (q_nck rfl) ?_
    refine Dr.q (i := 19) hP16 rfl (by kernel_rfl) (q_fa fo_150_0 rfl) ?_
    refine Dr.q (i := 20) hP16 rfl (by kernel_rfl) (q_fa fo_62_6 rfl) ?_
    refine Dr.q (i := 21) hP16 rfl (by kernel_rfl) (q_ldO (v := .int .i64 0) isA_3 rfl .here (fm_at eCel_len hi rfl)) ?_
    refine Dr.q (i := 22) hP16 rfl (by kernel_rfl) (q_mv rfl) ?_
    refine Dr.q (i := 23) hP16 rfl (by kernel_rfl) (q_fa fo_147_1 rfl) ?_
    refine Dr.q (i := 24) hP16 rfl (by kernel_rfl) (q_ldB isA_3 rfl (.there .here) rfl) ?_
    refine Dr.q (i := 25) hP16 rfl (by kernel_rfl) (q_ar rfl rfl (a_add (by omega))) ?_
    refine Dr.q (i := 26) hP16 rfl (by kernel_rfl) (q_mv rfl) ?_
    refine Dr.q (i := 27) hP16 rfl (by kernel_rfl) (q_nck rfl) ?_
    refine Dr.q (i := 28) hP16 rfl (by kernel_rfl) (q_fa fo_150_0 rfl) ?_
    refine Dr.q (i := 29) hP16 rfl (by kernel_rfl) (q_fa fo_62_2 rfl) ?_
    refine Dr.q (i := 30) hP16 rfl (by kernel_rfl) (q_ldO (v := .int .i64 0) isA_3 rfl .here (fm_at eCel_len hi rfl)) ?_
    refine Dr.q (i := 31) hP16 rfl (by kernel_rfl) (q_ar rfl rfl (a_add (by omega))) ?_
    refine Dr.q (i := 32) hP16 rfl (by kernel_rfl) (q_min rfl rfl) ?_
    refine Dr.q (i := 33) hP16 rfl (by kernel_rfl) (q_max rfl rfl) ?_
    refine Dr.q (i := 34) hP16 rfl (by kernel_rfl) (q_bld [.int .i64 (max 0 (min 1048576 ((0 + x) + 0))), .int .i64 (max 0 (min 1048576 ((0 + x) + 0)))] pls_147 zc_147 rfl rfl) ?_
    refine Dr.e (i := 35) rfl (by kernel_rfl) ?_
    refine Ops.alc [.int .i64 0, .int .i64 0] zc_147 ?_
    intro b19
    refine Dr.back (fun _ hs => hF17 (.there .here) hs) ?_
    refine Dr.tail 36 (by kernel_rfl) ?_
    refine Ops.sat ?_ (fun _ hs => hR18 (.there .here) hs)
    refine Ops.stB [.int .i64 (max 0 (min 1048576 ((0 + x) + 0))), .int .i64 (max 0 (min 1048576 ((0 + x) + 0)))] [.int .i64 (max 0 (min 1048576 ((0 + x) + 0))), .int .i64 (max 0 (min 1048576 ((0 + x) + 0)))] sz_147 rfl rfl rfl (one rfl) .p2 rfl rfl ?_
    refine Ops.to rfl ?_
    refine Cd.seq ?_
    refine Cd.seq ?_
    refine Cd.draw rfl (by kernel_rfl) (.cons .p2 (.cons .here .nil)) ?_
    intro F20 St21 hP22 hF23 hR24
    refine Dr.q (i := 0) hP22 rfl (by kernel_rfl) (q_fa fo_147_0 rfl) ?_
    refine Dr.q (i := 1) hP22 rfl (by kernel_rfl) (q_ldB isA_3 rfl .here rfl) ?_
    refine Dr.q (i := 2) hP22 rfl (by kernel_rfl) (q_mv rfl) ?_
    refine Dr.q (i := 3) hP22 rfl (by kernel_rfl) (q_nck rfl) ?_
    refine Dr.q (i := 4) hP22 rfl (by kernel_rfl) (q_fa fo_150_0 rfl) ?_
    refine Dr.q (i := 5) hP22 rfl (by kernel_rfl) (q_fa fo_62_3 rfl) ?_
    refine Dr.q (i := 6) hP22 rfl (by kernel_rfl) (q_ldO (v := .int .i64 h) isA_3 rfl (.there .here) (fm_at eCel_len hi rfl)) ?_
    by_cases hlt : max 0 (min 1048576 ((0 + x) + 0)) < h
    · refine Dr.q (i := 7) hP22 rfl (by kernel_rfl) (q_cmp rfl rfl (c_lt hlt)) ?_
      refine Dr.tail 8 (by kernel_rfl) ?_
      refine Ops.sat ?_ (fun _ hs => hR24 .here hs)
      refine Ops.to rfl ?_
      refine Cd.cond_t rfl ?_
      refine Cd.seq ?_
      refine Cd.draw rfl (by kernel_rfl) (.cons .here (.cons .here .nil)) ?_
      intro F25 St26 hP27 hF28 hR29
      refine Dr.q (i := 0) hP27 rfl (by kernel_rfl) (q_mv rfl) ?_
      refine Dr.q (i := 1) hP27 rfl (by kernel_rfl) (q_fa fo_147_0 rfl) ?_
      refine Dr.q (i := 2) hP27 rfl (by kernel_rfl) (q_ldB isA_3 rfl .here rfl) ?_
      refine Dr.q (i := 3) hP27 rfl (by kernel_rfl) (q_fa fo_147_1 rfl) ?_
      refine Dr.q (i := 4) hP27 rfl (by kernel_rfl) (q_ldB isA_3 rfl .here rfl) ?_
      refine Dr.q (i := 5) hP27 rfl (by kernel_rfl) (q_mv rfl) ?_
      refine Dr.q (i := 6) hP27 rfl (by kernel_rfl) (q_nck rfl) ?_
      refine Dr.q (i := 7) hP27 rfl (by kernel_rfl) (q_fa fo_150_0 rfl) ?_
      refine Dr.q (i := 8) hP27 rfl (by kernel_rfl) (q_fa fo_62_3 rfl) ?_
      refine Dr.q (i := 9) hP27 rfl (by kernel_rfl) (q_ldO (v := .int .i64 h) isA_3 rfl (.there .here) (fm_at eCel_len hi rfl)) ?_
      refine Dr.q (i := 10) hP27 rfl (by kernel_rfl) (q_ar rfl rfl (a_sub (by omega))) ?_
      refine Dr.q (i := 11) hP27 rfl (by kernel_rfl) (q_min rfl rfl) ?_
      refine Dr.q (i := 12) hP27 rfl (by kernel_rfl) (q_bld [.int .i64 (max 0 (min 1048576 ((0 + x) + 0))), .int .i64 (min (max 0 (min 1048576 ((0 + x) + 0))) (h - 1))] pls_147 zc_147 rfl rfl) ?_
      refine Dr.e (i := 13) rfl (by kernel_rfl) ?_
      refine Ops.cv (α := Unit) (k := 106) (first := []) (caps := [.pointer (some ⟨b2, 0, none⟩)]) (vs := [.int .i64 0, .agg [.int .i64 (max 0 (min 1048576 ((0 + x) + 0))), .int .i64 (min (max 0 (min 1048576 ((0 + x) + 0))) (h - 1))].toArray]) (v := fun _ => .tuple #[]) (A' := fun _ => blk b2 148 [.map (some nb)] :: vmap nb (.agg [.int .i64 (max 0 (min 1048576 ((0 + x) + 0))), .int .i64 (min (max 0 (min 1048576 ((0 + x) + 0))) (h - 1))].toArray) :: F25 :: blk b1 147 [.int .i64 x, .int .i64 x] :: blk b3 147 [.int .i64 v, .int .i64 v] :: itr it m true :: F) en_106 rfl rfl ?_ ?_
      · intro w hs
        exact (put_c b2 nb (max 0 (min 1048576 ((0 + x) + 0))) (min (max 0 (min 1048576 ((0 + x) + 0))) (h - 1)) w0 w _ ((((((hs.pull .p3).pull .p3).pull .p3).pull .p3).pull .p4).pull .p5)).mono fun e w' h9 => ⟨(), h9.1, h9.2⟩
      intro _
      refine Dr.back (fun _ hs => hF28 .p2 hs) ?_
      refine Dr.tail 14 (by kernel_rfl) ?_
      refine Ops.sat ?_ (fun _ hs => hR29 .p2 hs)
      refine Ops.to rfl ?_
      refine Cd.region ?_
      refine Ops.q (q_asg rfl) ?_
      refine Ops.to rfl ?_
      refine Cd.seq ?_
      refine Cd.seq ?_
      refine Cd.draw rfl (by kernel_rfl) (.cons .here (.cons .here .nil)) ?_
      intro F30 St31 hP32 hF33 hR34
      refine Dr.q (i := 0) hP32 rfl (by kernel_rfl) (q_fa fo_147_1 rfl) ?_
      refine Dr.q (i := 1) hP32 rfl (by kernel_rfl) (q_ldB isA_3 rfl .here rfl) ?_
      refine Dr.q (i := 2) hP32 rfl (by kernel_rfl) (q_mv rfl) ?_
      refine Dr.q (i := 3) hP32 rfl (by kernel_rfl) (q_nck rfl) ?_
      refine Dr.q (i := 4) hP32 rfl (by kernel_rfl) (q_fa fo_150_0 rfl) ?_
      refine Dr.q (i := 5) hP32 rfl (by kernel_rfl) (q_fa fo_62_3 rfl) ?_
      refine Dr.q (i := 6) hP32 rfl (by kernel_rfl) (q_ldO (v := .int .i64 h) isA_3 rfl (.there .here) (fm_at eCel_len hi rfl)) ?_
      refine Dr.q (i := 7) hP32 rfl (by kernel_rfl) (q_cmp rfl rfl (c_lt (by omega))) ?_
      refine Dr.tail 8 (by kernel_rfl) ?_
      refine Ops.sat ?_ (fun _ hs => hR34 .here hs)
      refine Ops.to rfl ?_
      refine Cd.cond_t rfl ?_
      refine Cd.rndExit (some false) rfl (by rintro f ⟨⟩; exact (decide_eq_false (by omega)).symm) (by decide) ⟨rfl, rfl, rfl, rfl, rfl, rfl, rfl, rfl, trivial⟩ (fun _ hs => (((((((hs.pull (.there .here)).pull .p4).pull .p3).pull .p4).pull .p6).pull .p5).drop.pull .p5).drop)
    · refine Dr.q (i := 7) hP22 rfl (by kernel_rfl) (q_cmp rfl rfl (c_nlt (by omega))) ?_
      refine Dr.tail 8 (by kernel_rfl) ?_
      refine Ops.sat ?_ (fun _ hs => hR24 .here hs)
      refine Ops.to rfl ?_
      refine Cd.cond_f rfl ?_
      refine Cd.skipTo rfl ?_
      refine Cd.seq ?_
      refine Cd.seq ?_
      refine Cd.draw rfl (by kernel_rfl) (.cons .here (.cons .here .nil)) ?_
      intro F35 St36 hP37 hF38 hR39
      refine Dr.q (i := 0) hP37 rfl (by kernel_rfl) (q_fa fo_147_1 rfl) ?_
      refine Dr.q (i := 1) hP37 rfl (by kernel_rfl) (q_ldB isA_3 rfl .here rfl) ?_
      refine Dr.q (i := 2) hP37 rfl (by kernel_rfl) (q_mv rfl) ?_
      refine Dr.q (i := 3) hP37 rfl (by kernel_rfl) (q_nck rfl) ?_
      refine Dr.q (i := 4) hP37 rfl (by kernel_rfl) (q_fa fo_150_0 rfl) ?_
      refine Dr.q (i := 5) hP37 rfl (by kernel_rfl) (q_fa fo_62_3 rfl) ?_
      refine Dr.q (i := 6) hP37 rfl (by kernel_rfl) (q_ldO (v := .int .i64 h) isA_3 rfl (.there .here) (fm_at eCel_len hi rfl)) ?_
      refine Dr.q (i := 7) hP37 rfl (by kernel_rfl) (q_cmp rfl rfl (c_nlt (by omega))) ?_
      refine Dr.tail 8 (by kernel_rfl) ?_
      refine Ops.sat ?_ (fun _ hs => hR39 .here hs)
      refine Ops.to rfl ?_
      refine Cd.cond_f rfl ?_
      refine Cd.skipTo rfl ?_
      refine Cd.seq ?_
      refine Cd.region ?_
      refine Ops.q (q_asg rfl) ?_
      refine Ops.to rfl ?_
      refine Cd.seq ?_
      refine Cd.region ?_
      refine Ops.q (q_mv rfl) ?_
      refine Ops.q (q_nck rfl) ?_
      refine Ops.q (q_fa fo_150_0 rfl) ?_
      refine Ops.q (q_fa fo_62_4 rfl) ?_
      refine Ops.q (q_ldO (v := .int .i64 0) isA_3 rfl (.there .here) (fm_at eCel_len hi rfl)) ?_
      refine Ops.q (q_cmp rfl rfl (c_neq (by decide))) ?_
      refine Ops.to rfl ?_
      refine Cd.cond_f rfl ?_
      refine Cd.draw rfl (by kernel_rfl) (.cons (.there .here) .nil) ?_
      intro F40 St41 hP42 hF43 hR44
      refine Dr.q (i := 0) hP42 rfl (by kernel_rfl) (q_mv rfl) ?_
      refine Dr.q (i := 1) hP42 rfl (by kernel_rfl) (q_mv rfl) ?_
      refine Dr.q (i := 2) hP42 rfl (by kernel_rfl) (q_nck rfl) ?_
      refine Dr.q (i := 3) hP42 rfl (by kernel_rfl) (q_fa fo_150_0 rfl) ?_
      refine Dr.q (i := 4) hP42 rfl (by kernel_rfl) (q_fa fo_62_7 rfl) ?_
      refine Dr.q (i := 5) hP42 rfl (by kernel_rfl) (q_ldO (v := .int .i64 0) isA_3 rfl .here (fm_at eCel_len hi rfl)) ?_
      refine Dr.q (i := 6) hP42 rfl (by kernel_rfl) (q_mv rfl) ?_
      refine Dr.q (i := 7) hP42 rfl (by kernel_rfl) (q_nck rfl) ?_
      refine Dr.q (i := 8) hP42 rfl (by kernel_rfl) (q_fa fo_150_0 rfl) ?_
      refine Dr.q (i := 9) hP42 rfl (by kernel_rfl) (q_fa fo_62_5 rfl) ?_
      refine Dr.q (i := 10) hP42 rfl (by kernel_rfl) (q_ldO (v := .int .i64 0) isA_3 rfl .here (fm_at eCel_len hi rfl)) ?_
      refine Dr.q (i := 11) hP42 rfl (by kernel_rfl) (q_mv rfl) ?_
      refine Dr.q (i := 12) hP42 rfl (by kernel_rfl) (q_nck rfl) ?_
      refine Dr.q (i := 13) hP42 rfl (by kernel_rfl) (q_fa fo_150_0 rfl) ?_
      refine Dr.q (i := 14) hP42 rfl (by kernel_rfl) (q_fa fo_62_5 rfl) ?_
      refine Dr.q (i := 15) hP42 rfl (by kernel_rfl) (q_ldO (v := .int .i64 0) isA_3 rfl .here (fm_at eCel_len hi rfl)) ?_
      refine Dr.q (i := 16) hP42 rfl (by kernel_rfl) (q_bld [.int .i64 0, .int .i64 0] pls_147 zc_147 rfl rfl) ?_
      refine Dr.e (i := 17) rfl (by kernel_rfl) ?_
      refine Ops.cv (α := Unit) (k := 106) (first := []) (caps := [.pointer (some ⟨b2, 0, none⟩)]) (vs := [.int .i64 0, .agg [.int .i64 0, .int .i64 0].toArray]) (v := fun _ => .tuple #[]) (A' := fun _ => blk b2 148 [.map (some nb)] :: vmap nb (.agg [.int .i64 0, .int .i64 0].toArray) :: F40 :: blk b19 147 [.int .i64 (max 0 (min 1048576 ((0 + x) + 0))), .int .i64 (max 0 (min 1048576 ((0 + x) + 0)))] :: blk b1 147 [.int .i64 x, .int .i64 x] :: blk b3 147 [.int .i64 v, .int .i64 v] :: itr it m true :: F) en_106 rfl rfl ?_ ?_
      · intro w hs
        exact (put_c b2 nb (0) (0) w0 w _ (((((((hs.pull .p4).pull .p4).pull .p4).pull .p4).pull .p4).pull .p5).pull .p6)).mono fun e w' h9 => ⟨(), h9.1, h9.2⟩
      intro _
      refine Dr.back (fun _ hs => hF43 .p2 hs) ?_
      refine Dr.tail 18 (by kernel_rfl) ?_
      refine Ops.sat ?_ (fun _ hs => hR44 .p2 hs)
      refine Ops.rnd (some true) rfl (by rintro f ⟨⟩; exact (decide_eq_true (by omega)).symm) (by decide) ⟨rfl, rfl, rfl, rfl, rfl, rfl, rfl, rfl, trivial⟩ (fun _ hs => (((((((hs.pull .here).pull .p4).pull .p2).pull .p3).pull .p6).pull .p5).drop.pull .p5).drop)
  · change Cd _ _ _ _ _ _ _ [(0, .pointer (some ⟨cb, 0 + i * 9, none⟩)), (3, .pointer (some ⟨b1, 0, none⟩)), (4, .int .i64 0), (5, .pointer (some ⟨b2, 0, none⟩)), (6, .func (.func 106) #[] #[.pointer (some ⟨b2, 0, none⟩)]), (22, .pointer (some ⟨it, 0, none⟩)), (7, .bool true), (8, .bool false)] (itr it m true :: vmap nb (.agg [.int .i64 (max 0 (min 1048576 ((0 + x) + 0))), .int .i64 (min (max 0 (min 1048576 ((0 + x) + 0))) (h - 1))].toArray) :: blk b2 148 [.map (some nb)] :: blk b1 147 [.int .i64 x, .int .i64 x] :: row (some ⟨cb, 0, none⟩) cc 150 9 ces.length (ces.flatMap eCel) :: F)
    have hI1 := hI _ rfl
    refine Cd.seq ?_
    refine Cd.region ?_
    refine Ops.nxtV0 rfl (fun _ hs => hM _ (((((hs).drop).drop).drop).drop).drop) .here ?_
    refine Ops.q (q_ext rfl rfl) ?_
    refine Ops.to rfl ?_
    refine Cd.seq ?_
    refine Cd.cond_f rfl ?_
    refine Cd.exitTo rfl ?_
    refine Cd.seq ?_
    refine Cd.region ?_
    refine Ops.q (q_mv rfl) ?_
    refine Ops.q (q_ldB isA_148 rfl .p2 rfl) ?_
    refine Ops.q (q_nck rfl) ?_
    refine Ops.q (q_fa fo_150_1 rfl) ?_
    refine Ops.stO [.map (some nb)] ((ces.set i (gateP h, some nb)).flatMap eCel) sz_148 rfl rfl rfl (one rfl) .p4 (by have h9 := (List.getElem?_eq_some_iff.1 hi).1; rw [fm_length eCel_len]; simp only [List.length_cons, List.length_nil]; omega) (by rw [Nat.zero_add]; exact fm_put eCel_len (o := 8) (vs := [.map (some nb)]) (Nat.le_refl _) hi rfl) ?_
    refine Ops.to rfl ?_
    refine Cd.seq ?_
    refine Cd.block ?_
    refine Cd.seq ?_
    refine Cd.region ?_
    refine Ops.q (q_mv rfl) ?_
    refine Ops.q (q_not rfl) ?_
    refine Ops.q (q_asg rfl) ?_
    refine Ops.to rfl ?_
    refine Cd.cond_t rfl ?_
    refine Cd.seq ?_
    refine Cd.region ?_
    refine Ops.q (q_asg rfl) ?_
    refine Ops.to rfl ?_
    refine Cd.rt (fn := Tryz.f80) [.int .i64 0] (by with_reducible repeat (first | exact rq_here | apply rq_then | apply rq_block)) rfl ⟨rfl, trivial⟩ ?_
    intro w' hs'
    have hle : ¬ h ≤ x := by simpa using hI1
    rw [if_neg hle, if_neg hle]
    have e1 : max 0 (min 1048576 ((0 + x) + 0)) = x := by omega
    have e2 : min (max 0 (min 1048576 ((0 + x) + 0))) (h - 1) = x := by omega
    rw [e2, e1] at hs'
    exact ⟨nb, rfl, (((((hs'.pull (.there .here)).pull .p4).pull .p2).drop.pull .p2).drop.pull .p2).drop⟩
  · change Cd _ _ _ _ _ _ _ [(0, .pointer (some ⟨cb, 0 + i * 9, none⟩)), (3, .pointer (some ⟨b1, 0, none⟩)), (4, .int .i64 0), (5, .pointer (some ⟨b2, 0, none⟩)), (6, .func (.func 106) #[] #[.pointer (some ⟨b2, 0, none⟩)]), (22, .pointer (some ⟨it, 0, none⟩)), (7, .bool false), (8, .bool true)] (itr it m true :: vmap nb (.agg [.int .i64 0, .int .i64 0].toArray) :: blk b2 148 [.map (some nb)] :: blk b1 147 [.int .i64 x, .int .i64 x] :: row (some ⟨cb, 0, none⟩) cc 150 9 ces.length (ces.flatMap eCel) :: F)
    have hI1 := hI _ rfl
    refine Cd.seq ?_
    refine Cd.region ?_
    refine Ops.nxtV0 rfl (fun _ hs => hM _ (((((hs).drop).drop).drop).drop).drop) .here ?_
    refine Ops.q (q_ext rfl rfl) ?_
    refine Ops.to rfl ?_
    refine Cd.seq ?_
    refine Cd.cond_f rfl ?_
    refine Cd.exitTo rfl ?_
    refine Cd.seq ?_
    refine Cd.region ?_
    refine Ops.q (q_mv rfl) ?_
    refine Ops.q (q_ldB isA_148 rfl .p2 rfl) ?_
    refine Ops.q (q_nck rfl) ?_
    refine Ops.q (q_fa fo_150_1 rfl) ?_
    refine Ops.stO [.map (some nb)] ((ces.set i (gateP h, some nb)).flatMap eCel) sz_148 rfl rfl rfl (one rfl) .p4 (by have h9 := (List.getElem?_eq_some_iff.1 hi).1; rw [fm_length eCel_len]; simp only [List.length_cons, List.length_nil]; omega) (by rw [Nat.zero_add]; exact fm_put eCel_len (o := 8) (vs := [.map (some nb)]) (Nat.le_refl _) hi rfl) ?_
    refine Ops.to rfl ?_
    refine Cd.seq ?_
    refine Cd.block ?_
    refine Cd.seq ?_
    refine Cd.region ?_
    refine Ops.q (q_mv rfl) ?_
    refine Ops.q (q_not rfl) ?_
    refine Ops.q (q_asg rfl) ?_
    refine Ops.to rfl ?_
    refine Cd.cond_f rfl ?_
    refine Cd.seq ?_
    refine Cd.region ?_
    refine Ops.q (q_mv rfl) ?_
    refine Ops.q (q_asg rfl) ?_
    refine Ops.to rfl ?_
    refine Cd.cond_f rfl ?_
    refine Cd.skipTo rfl ?_
    refine Cd.seq ?_
    refine Cd.region ?_
    refine Ops.q (q_asg rfl) ?_
    refine Ops.to rfl ?_
    refine Cd.rt (fn := Tryz.f80) [.int .i64 2] (by with_reducible repeat (first | exact rq_here | apply rq_then | apply rq_block)) rfl ⟨rfl, trivial⟩ ?_
    intro w' hs'
    have hle : h ≤ x := by simpa using hI1
    rw [if_pos hle, if_pos hle]; exact ⟨nb, rfl, (((((hs'.pull (.there .here)).pull .p4).pull .p2).drop.pull .p2).drop.pull .p2).drop⟩
end Go.Proofs.YtilcdghliigngaaGreatDoor
namespace Go.Proofs.YtilcdghliigngaaGreatDoor
open Go.RowKit Go.Proofs.YtilcdghliigngaaGreatDoorGl Go.Proofs.YtilcdghliigngaaGreatDoorPm
set_option linter.unusedVariables false
set_option linter.unusedSimpArgs false
theorem Sat.merge {a : Atom} {φ ψ : World → Prop} {w0 w : World} {A : List Atom} (h : Sat w0 w (a :: rd φ :: A)) (hm : ∀ w S, a.P w S → φ w → ψ w) : Sat w0 w (rd ψ :: A) :=
  Sat.freeze (B := [a, rd φ]) (Sat.bundle (B := [a, rd φ]) h) (fun w S hS => by
    obtain ⟨S1, U1, h1, ⟨S2, U2, h2, _⟩, _⟩ := hS
    exact hm w S1 h1 h2.1)
theorem Sat.rd0 {φ : World → Prop} {w0 w : World} {A : List Atom} (h : Sat w0 w A) (hφ : ∀ w, φ w) : Sat w0 w (rd φ :: A) :=
  Sat.freeze (B := []) (Sat.bundle (B := []) h) (fun w _ _ => hφ w)
theorem Sat.froz {a : Atom} {ψ : World → Prop} {w0 w : World} {A : List Atom} (h : Sat w0 w (a :: A)) (hm : ∀ w S, a.P w S → ψ w) : Sat w0 w (rd ψ :: A) :=
  Sat.freeze (B := [a]) (Sat.bundle (B := [a]) h) (fun w S hS => by
    obtain ⟨S1, U1, h1, _⟩ := hS
    exact hm w S1 h1)
def CMF (cs : List Cel) (V : Nat → Int) (k : Nat) (w : World) : Prop := ∀ (j : Nat) (p : Prm) (m : Nat), j < k → cs[j]? = some (p, some m) → VM w m (sp (V j))
def CelOK (H : Nat → Int) (cs : List Cel) (k : Nat) : Prop := ∀ j, j < k → ∃ m, cs[j]? = some (gateP (H j), some m)
theorem CelOK.set {H : Nat → Int} {cs : List Cel} {k i m : Nat} {h : Int} (hc : CelOK H cs k) (hi : i < cs.length) (hh : h = H i) : CelOK H (cs.set i (gateP h, some m)) k := fun j hj => by
  by_cases e : i = j
  · subst e; exact ⟨m, by rw [hh]; simp [hi]⟩
  · obtain ⟨m', h'⟩ := hc j hj
    exact ⟨m', by rw [List.getElem?_set_ne e]; exact h'⟩
theorem CelOK.next {H : Nat → Int} {cs : List Cel} {k m : Nat} {h : Int} (hc : CelOK H cs k) (hi : k < cs.length) (hh : h = H k) : CelOK H (cs.set k (gateP h, some m)) (k + 1) := fun j hj => by
  by_cases e : k = j
  · subst e; exact ⟨m, by rw [hh]; simp [hi]⟩
  · obtain ⟨m', h'⟩ := hc j (by omega)
    exact ⟨m', by rw [List.getElem?_set_ne e]; exact h'⟩
theorem CMF.next {cs : List Cel} {V V' : Nat → Int} {k i m n : Nat} {q : Prm} {w : World} {x : Int} (hc : CMF cs V k w) (hi : i < cs.length) (hm : VM w m (sp x)) (hx : x = V' i) (hV : ∀ j, j < n → j ≠ i → j < k ∧ V' j = V j) : CMF (cs.set i (q, some m)) V' n w := fun j p m' hj he => by
  by_cases e : i = j
  · subst e
    simp [hi] at he
    obtain ⟨_, rfl⟩ := he
    rw [← hx]; exact hm
  · rw [List.getElem?_set_ne e] at he
    obtain ⟨h1, h2⟩ := hV j hj (fun e' => e e'.symm)
    rw [h2]; exact hc j p m' h1 he
def kvE (e : Evt) : List Int × Value := ([e.tick, e.id], .int .i64 2)
theorem kvE_none {evs : List Evt} {e : Evt} (h : e ∉ evs) : ∀ i, findS [e.tick, e.id] (evs.map kvE) i = none := by
  induction evs with
  | nil => intro i; rfl
  | cons y ys ih =>
    intro i
    simp only [List.map_cons, kvE, findS]
    rw [if_neg]
    · exact ih (fun hm => h (List.mem_cons_of_mem _ hm)) _
    · intro e'
      simp only [List.cons.injEq, and_true] at e'
      exact h (by cases e; cases y; simp at e'; simp [e'])
theorem kvE_some {evs : List Evt} {e : Evt} (h : e ∈ evs) : ∀ i, (findS [e.tick, e.id] (evs.map kvE) i).map (·.2) = some (.int .i64 2) := by
  induction evs with
  | nil => cases h
  | cons y ys ih =>
    intro i
    simp only [List.map_cons, kvE, findS]
    by_cases c : [e.tick, e.id] = [y.tick, y.id]
    · rw [if_pos c]; rfl
    · rw [if_neg c]
      refine ih ?_ _
      rcases List.mem_cons.1 h with rfl | h
      · exact absurd rfl c
      · exact h
theorem kvE_len {evs : List Evt} : ∀ p ∈ evs.map kvE, p.1.length = 2 := by
  intro p hp
  obtain ⟨e, _, rfl⟩ := List.mem_map.1 hp
  rfl
theorem ev_new {evs : List Evt} (hn : evs.Nodup) {k : Nat} {e : Evt} (he : evs[k]? = some e) : e ∉ evs.take k := fun hm => by
  have e1 : evs = evs.take k ++ e :: evs.drop (k + 1) := by rw [← drop_get he]; exact (List.take_append_drop k evs).symm
  rw [e1] at hn
  exact (List.nodup_append.1 hn).2.2 e hm e List.mem_cons_self rfl
def eSp (x : Int × Int) : List Value := [.int .i64 x.1, .int .i64 x.2]
theorem eSp_len (x : Int × Int) : (eSp x).length = 2 := rfl
def spx (ss : List Syn) (F : Nat → Nat → Bool) (idl : Nat → List Int) (t N k : Nat) : List (Int × Int) := (List.range N).map fun d => (inX (ss.take k) F idl t d, inX (ss.take k) F idl t d)
theorem spx_len (ss : List Syn) (F : Nat → Nat → Bool) (idl : Nat → List Int) (t N k : Nat) : (spx ss F idl t N k).length = N := by simp [spx]
theorem spx_get {ss : List Syn} {F : Nat → Nat → Bool} {idl : Nat → List Int} {t N k d : Nat} (h : d < N) : (spx ss F idl t N k)[d]? = some (inX (ss.take k) F idl t d, inX (ss.take k) F idl t d) := by simp [spx, h]
theorem spx_full {ss : List Syn} {F : Nat → Nat → Bool} {idl : Nat → List Int} {t N d : Nat} (h : d < N) : (spx ss F idl t N ss.length)[d]? = some (inX ss F idl t d, inX ss F idl t d) := by rw [spx_get h, List.take_length]
theorem spx_zero (ss : List Syn) (F : Nat → Nat → Bool) (idl : Nat → List Int) (t N : Nat) : rep N [Value.int .i64 0, .int .i64 0] = (spx ss F idl t N 0).flatMap eSp := by
  have e : spx ss F idl t N 0 = List.replicate N (0, 0) := by
    refine List.ext_getElem? fun d => ?_
    by_cases h : d < N
    · rw [spx_get h]; simp [h, inX, sumI]
    · rw [List.getElem?_eq_none (by rw [spx_len]; omega), List.getElem?_eq_none (by simp; omega)]
  rw [e]
  unfold rep
  rw [List.flatMap_def, List.map_replicate]; rfl
theorem inX_next {ss : List Syn} {F : Nat → Nat → Bool} {idl : Nat → List Int} {t k d : Nat} {s : Syn} (hx : ss[k]? = some s) : inX (ss.take (k + 1)) F idl t d = inX (ss.take k) F idl t d + (if s.dst = (d : Int) ∧ s.dl ≤ (t : Int) ∧ srcF F idl ((t : Int) - s.dl).toNat s.src = true then s.wt else 0) := by
  unfold inX
  rw [take_get hx, sumI_app]
  simp [sumI]
theorem spx_no {ss : List Syn} {F : Nat → Nat → Bool} {idl : Nat → List Int} {t N k : Nat} {s : Syn} (hx : ss[k]? = some s) (hc : ¬ (s.dl ≤ (t : Int) ∧ srcF F idl ((t : Int) - s.dl).toNat s.src = true)) : spx ss F idl t N k = spx ss F idl t N (k + 1) := by
  unfold spx
  refine List.map_congr_left fun d _ => ?_
  rw [inX_next hx, if_neg (fun h => hc h.2), Int.add_zero]
theorem spx_yes {ss : List Syn} {F : Nat → Nat → Bool} {idl : Nat → List Int} {t N k d : Nat} {s : Syn} (hx : ss[k]? = some s) (hc : s.dl ≤ (t : Int) ∧ srcF F idl ((t : Int) - s.dl).toNat s.src = true) (hd : s.dst = (d : Int)) (hw : s.wt = 1) :
    (spx ss F idl t N k).set d (inX (ss.take k) F idl t d + 1, inX (ss.take k) F idl t d + 1) = spx ss F idl t N (k + 1) := by
  refine List.ext_getElem? fun j => ?_
  by_cases h : j < N
  · rw [spx_get h, inX_next hx]
    by_cases e : d = j
    · subst e
      rw [List.getElem?_set_self (by rw [spx_len]; omega), if_pos ⟨hd, hc⟩, hw]
    · rw [List.getElem?_set_ne e, spx_get h, if_neg (fun h' => e (by have := h'.1; omega)), Int.add_zero]
  · rw [List.getElem?_eq_none (by rw [List.length_set, spx_len]; omega), List.getElem?_eq_none (by rw [spx_len]; omega)]
theorem inX_bd {ss : List Syn} (F : Nat → Nat → Bool) (idl : Nat → List Int) (h : ∀ s ∈ ss, s.wt = 1) (t d : Nat) : ∀ k, 0 ≤ inX (ss.take k) F idl t d ∧ inX (ss.take k) F idl t d ≤ (k : Int)
  | 0 => by simp [inX, sumI]
  | k + 1 => by
    have ih := inX_bd F idl h t d k
    by_cases hk : k < ss.length
    · have hx : ss[k]? = some ss[k] := List.getElem?_eq_getElem hk
      rw [inX_next hx, h _ (List.getElem_mem hk)]
      split <;> omega
    · rw [List.take_of_length_le (by omega)]
      rw [List.take_of_length_le (by omega)] at ih
      omega
def vd (b : Bool) : Int := if b = true then 2 else 0
def vrow (F : Nat → Nat → Bool) (N t : Nat) : List Int := (List.range N).map fun d => vd (F t d)
def vmid (F : Nat → Nat → Bool) (N t i : Nat) : List Int := (List.range N).map fun d => if d < i then vd (F t d) else 0
theorem vmid_len (F : Nat → Nat → Bool) (N t i : Nat) : (vmid F N t i).length = N := by simp [vmid]
theorem vrow_len (F : Nat → Nat → Bool) (N t : Nat) : (vrow F N t).length = N := by simp [vrow]
theorem vrow_get {F : Nat → Nat → Bool} {N t d : Nat} (h : d < N) : (vrow F N t)[d]? = some (vd (F t d)) := by simp [vrow, h]
theorem vmid_zero (F : Nat → Nat → Bool) (N t : Nat) : rep N [Value.int .i64 0] = (vmid F N t 0).flatMap eInt := by
  rw [rep_int]
  congr 1
  refine List.ext_getElem? fun d => ?_
  by_cases h : d < N
  · simp [vmid, h]
  · rw [List.getElem?_eq_none (by simp; omega), List.getElem?_eq_none (by rw [vmid_len]; omega)]
theorem vmid_set {F : Nat → Nat → Bool} {N t i : Nat} (h : i < N) {v : Int} (hv : v = vd (F t i)) : (vmid F N t i).set i v = vmid F N t (i + 1) := by
  refine List.ext_getElem? fun j => ?_
  by_cases hj : j < N
  · by_cases e : i = j
    · subst e
      rw [List.getElem?_set_self (by rw [vmid_len]; exact h), hv]
      simp [vmid, h]
    · rw [List.getElem?_set_ne e]
      have e2 : (j < i) ↔ (j < i + 1) := by omega
      simp [vmid, hj, e2]
  · rw [List.getElem?_eq_none (by rw [List.length_set, vmid_len]; omega), List.getElem?_eq_none (by rw [vmid_len]; omega)]
theorem vmid_full (F : Nat → Nat → Bool) (N t : Nat) : vmid F N t N = vrow F N t := by
  refine List.map_congr_left fun d hd => ?_
  rw [if_pos (List.mem_range.1 hd)]
def LLF (ls : List NL) (w : World) : Prop := ∀ l ∈ ls, RoL w l.1.1 eInt l.2
theorem ls_next {F : Nat → Nat → Bool} {N t : Nat} {ls : List NL} {y : NL} (h : ls.map (·.2) = (List.range t).map (vrow F N)) (hy : y.2 = vrow F N t) : (ls ++ [y]).map (·.2) = (List.range (t + 1)).map (vrow F N) := by
  rw [rg_app, List.map_append, h, List.map_cons, List.map_nil, hy]
theorem ls_get {F : Nat → Nat → Bool} {N t q : Nat} {ls : List NL} (h : ls.map (·.2) = (List.range t).map (vrow F N)) (hq : q < t) : ∃ a c, ls[q]? = some ((a, c), vrow F N q) := by
  have hl : ls.length = t := by have := congrArg List.length h; simpa using this
  obtain ⟨x, hx⟩ : ∃ x, ls[q]? = some x := ⟨_, List.getElem?_eq_getElem (by omega)⟩
  obtain ⟨⟨a, c⟩, v⟩ := x
  have h1 : (ls.map (·.2))[q]? = some v := by rw [List.getElem?_map, hx]; rfl
  rw [h] at h1
  simp [hq] at h1
  subst h1
  exact ⟨a, c, hx⟩
def zCel : Cel := (⟨0, 0, 0, 0, 0, 0, 0, 0⟩, none)
theorem rep_cel (n : Nat) : rep n [Value.int .i64 0, .int .i64 0, .int .i64 0, .int .i64 0, .int .i64 0, .int .i64 0, .int .i64 0, .int .i64 0, .map none] = (List.replicate n zCel).flatMap eCel := by
  unfold rep
  rw [List.flatMap_def, List.map_replicate]; rfl
def Vm (V : Nat → Nat → Int) (t i d : Nat) : Int := if d < i then V (t + 1) d else V t d
theorem Vm_zero (V : Nat → Nat → Int) (t : Nat) : Vm V t 0 = V t := by funext d; unfold Vm; rw [if_neg (by omega)]
theorem Vm_self (V : Nat → Nat → Int) (t i : Nat) : Vm V t i i = V t i := by unfold Vm; rw [if_neg (by omega)]
theorem Vm_next (V : Nat → Nat → Int) (t i : Nat) : Vm V t (i + 1) i = V (t + 1) i := by unfold Vm; rw [if_pos (by omega)]
theorem Vm_ne (V : Nat → Nat → Int) {t i j : Nat} (h : j ≠ i) : Vm V t (i + 1) j = Vm V t i j := by
  unfold Vm
  by_cases c : j < i
  · rw [if_pos c, if_pos (by omega)]
  · rw [if_neg c, if_neg (by omega)]
theorem CMF.full {cs : List Cel} {V : Nat → Nat → Int} {t k : Nat} {w : World} (h : CMF cs (Vm V t k) k w) : CMF cs (V (t + 1)) k w := fun j p m hj he => by
  have h9 := h j p m hj he
  unfold Vm at h9
  rwa [if_pos hj] at h9
theorem ls_fm (F : Nat → Nat → Bool) (N t : Nat) (ls : List NL) (a : Option Addr) (c : Nat) : ls.flatMap eNL ++ [.slice a N c] = (ls ++ [((a, c), vrow F N t)]).flatMap eNL := by
  rw [fm_app]; simp [eNL, vrow_len]
theorem LLF.next {ls : List NL} {y : NL} {w : World} (h : LLF ls w) (hy : RoL w y.1.1 eInt y.2) : LLF (ls ++ [y]) w := fun l hl => by
  rcases List.mem_append.1 hl with hl | hl
  · exact h l hl
  · rw [List.mem_singleton.1 hl]; exact hy
theorem ro_of_rowP {a : Option Addr} {cap : Nat} {E : TypeId} {sz n : Nat} {cs : List Value} {w : World} {S : Nat → Prop} (h : (row a cap E sz n cs).P w S) : Ro w a cs := ro_of_own h.1
theorem srcF_of (F : Nat → Nat → Bool) (idl : Nat → List Int) (t d : Nat) : srcF F idl t (d : Int) = F t d := by
  unfold srcF
  rw [if_pos (by omega), Int.toNat_natCast]
theorem srcF_neg (F : Nat → Nat → Bool) (idl : Nat → List Int) (t : Nat) {s : Int} (h : ¬ 0 ≤ s) : srcF F idl t s = decide (-1 - s ∈ idl t) := by
  unfold srcF
  rw [if_neg h]
structure BndI (ns : List Prm) (ip : Int) (ss : List Syn) (evs : List Evt) (F : Nat → Nat → Bool) (idl : Nat → List Int) (V : Nat → Nat → Int) (H : Nat → Int) : Prop where
  ok : netCheck ⟨ns, ip, ss⟩ = 0
  gate : ∀ (d : Nat) (p : Prm), ns[d]? = some p → p = gateP (H d)
  hH : ∀ d, 1 ≤ H d ∧ H d ≤ 1048576
  wt : ∀ s ∈ ss, s.wt = 1
  fire : ∀ t d, d < ns.length → F t d = decide (H d ≤ inX ss F idl t d)
  V0 : ∀ d, V 0 d = 0
  Vn : ∀ t d, d < ns.length → V (t + 1) d = if H d ≤ inX ss F idl t d then 0 else inX ss F idl t d
  Vb : ∀ t d, d < ns.length → 0 ≤ V t d ∧ V t d ≤ 1
  known : ∀ (t : Nat) (i : Int), (⟨(t : Int), i⟩ : Evt) ∈ evs ↔ i ∈ idl t
  nod : evs.Nodup
  evOK : evOK ip evs
end Go.Proofs.YtilcdghliigngaaGreatDoor
namespace Go.Proofs.YtilcdghliigngaaGreatDoor
open Go.RowKit Go.Proofs.YtilcdghliigngaaGreatDoorGl Go.Proofs.YtilcdghliigngaaGreatDoorPm
set_option linter.unusedVariables false
set_option linter.unusedSimpArgs false
theorem mpT_144 : mpT Tryz.prog 144 = some (70, 3) := by kernel_rfl
theorem intS_70 : intS Tryz.prog 70 = some 2 := by kernel_rfl
theorem zv_3 : zvT Tryz.prog 3 = some (.int .i64 0) := by kernel_rfl
theorem Cd.rowpos {P : Program} {r : Option Nat} {Q : Exit → Act → World → Prop} {w0 : World} {n : Nat} {D : List Deferred} {L : Env} {A A' : List Atom} {c : Code} {a : Option Addr} {cap : Nat} {E : TypeId} {sz m : Nat} {cs : List Value} (hp : Pull A (row a cap E sz m cs) A') (hm : 0 < m) (h : ∀ b, a = some ⟨b, 0, none⟩ → Cd P r c Q w0 n D L A) : Cd P r c Q w0 n D L A := by
  intro ac w hk hs
  rcases (hs.own hp).2 with ⟨_, h0⟩ | ⟨b, _, _, hv, _⟩
  · omega
  · simp only [Value.slice.injEq] at hv
    exact h b hv.1 ac w hk hs
theorem Cd.xpos {P : Program} {r : Option Nat} {Q : Exit → Act → World → Prop} {w0 : World} {n : Nat} {D : List Deferred} {L : Env} {A : List Atom} {c : Code} {a : Option Addr} {cs : List Value} (hX : ∀ w, Sat w0 w A → Ro w a cs) (hne : 0 < cs.length) (h : ∀ b o, a = some ⟨b, o, none⟩ → Cd P r c Q w0 n D L A) : Cd P r c Q w0 n D L A := by
  intro ac w hk hs
  obtain ⟨b, o, e⟩ := (hX w hs).pos hne
  exact h b o e ac w hk hs
theorem bounds_c (na : Option Addr) (nc : Nat) (sa : Option Addr) (sc : Nat) (ns : List Prm) (ip : Int) (ss : List Syn) (ea : Option Addr) (ec : Nat) (evs : List Evt) (T : Nat) (F : Nat → Nat → Bool) (idl : Nat → List Int) (V : Nat → Nat → Int) (H : Nat → Int) (w0 : World) (hN : RoL w0 na ePrm ns) (hS : RoL w0 sa eSyn ss) (hE : RoL w0 ea eEvt evs) (hec : evs.length ≤ ec) (hel : evs.length ≤ 1000) (hB : BndI ns ip ss evs F idl V H) (hnl : ns.length ≤ 1000) (hT : T ≤ 1000) : Calls Tryz.prog 38 [.agg [.slice na ns.length nc, .int .i64 ip, .slice sa ss.length sc].toArray, .slice ea evs.length ec, .slice none 0 0, .int .i64 (T : Int)].toArray w0 fun e w' => ∃ p : Option Addr × Nat × List NL, e = .returned (.tuple [.slice p.1 T p.2.1, .int .i64 0].toArray) ∧ p.2.2.map (·.2) = (List.range T).map (vrow F ns.length) ∧ Sat w0 w' [row p.1 p.2.1 31 1 T (p.2.2.flatMap eNL), rd (LLF p.2.2)] := by
  refine fstart Tryz.func38 rfl rfl (Sat.nil w0) ?_
  refine Cd.seq ?_
  refine Cd.region ?_
  obtain ⟨hn0, hn1, hs1, hi0, hi1, _, hsy⟩ := netCheck_ok hB.ok
  refine Ops.box [.slice na ns.length nc, .int .i64 ip, .slice sa ss.length sc] rfl rfl ?_
  intro b1
  refine Ops.box [.slice ea evs.length ec] rfl rfl ?_
  intro b2
  refine Ops.box [.slice none 0 0] rfl rfl ?_
  intro b3
  refine Ops.q (q_asg rfl) ?_
  refine Ops.q (q_asg rfl) ?_
  refine Ops.to rfl ?_
  refine Cd.seq ?_
  refine Cd.region ?_
  refine Ops.q (q_mkf rfl rfl) ?_
  refine Ops.q (q_mkf rfl rfl) ?_
  refine Ops.q (q_mkf rfl rfl) ?_
  refine Ops.q (q_mv rfl) ?_
  refine Ops.cl (α := Nat) (v := fun b => .func (.func 62) #[] #[.pointer (some ⟨b, 0, none⟩)]) (B := fun b => [blk b 3 [.int .i64 (T : Int)]]) en_28 rfl (fun w hs => timed_c _ w) ?_
  intro b4
  refine Ops.lit [.func (.func 77) #[] #[.pointer (some ⟨b1, 0, none⟩)], .func (.func 78) #[] #[.pointer (some ⟨b1, 0, none⟩), .pointer (some ⟨b2, 0, none⟩)], .func (.func 79) #[] #[.pointer (some ⟨b1, 0, none⟩), .pointer (some ⟨b3, 0, none⟩)], .func (.func 62) #[] #[.pointer (some ⟨b4, 0, none⟩)]] el_115 zsb_58 rfl rfl ⟨by decide, by decide⟩ rfl ?_
  intro b5
  have hf : ∀ f ∈ ([(77, [.pointer (some ⟨b1, 0, none⟩)]), (78, [.pointer (some ⟨b1, 0, none⟩), .pointer (some ⟨b2, 0, none⟩)]), (79, [.pointer (some ⟨b1, 0, none⟩), .pointer (some ⟨b3, 0, none⟩)]), (62, [.pointer (some ⟨b4, 0, none⟩)])] : List FnV), Enters Tryz.prog f.1 ∧ ∀ w, Sat w0 w ([row (some ⟨b5, 0, none⟩) 4 58 1 4 [.func (.func 77) #[] #[.pointer (some ⟨b1, 0, none⟩)], .func (.func 78) #[] #[.pointer (some ⟨b1, 0, none⟩), .pointer (some ⟨b2, 0, none⟩)], .func (.func 79) #[] #[.pointer (some ⟨b1, 0, none⟩), .pointer (some ⟨b3, 0, none⟩)], .func (.func 62) #[] #[.pointer (some ⟨b4, 0, none⟩)]], blk b4 3 [.int .i64 (T : Int)], blk b3 43 [.slice none 0 0], blk b2 43 [.slice ea evs.length ec], blk b1 40 [.slice na ns.length nc, .int .i64 ip, .slice sa ss.length sc]]) → Calls Tryz.prog f.1 ([] ++ [] ++ f.2).toArray w fun e w' => e = .returned (.int .i64 0) ∧ Sat w w' [] := by
    intro f hf
    simp only [List.mem_cons, List.not_mem_nil, or_false] at hf
    rcases hf with rfl | rfl | rfl | rfl
    · exact ⟨en_77, fun w hs => by have h9 := bchk_c b1 na nc sa sc ns ip ss w (Ro.ofB hs .p4) (hN.later hs.below) (hS.later hs.below); rw [hB.ok] at h9; exact h9⟩
    · exact ⟨en_78, fun w hs => bev1_c b1 b2 na nc sa sc ns ip ss ea ec evs w (Ro.ofB hs .p4) (Ro.ofB hs .p3) hB.evOK (hE.later hs.below) hec⟩
    · exact ⟨en_79, fun w hs => bev2_c b1 b3 na nc sa sc ns ip ss none 0 [] w (Ro.ofB hs .p4) (Ro.ofB hs .p2) ⟨hi0, hi1, rfl⟩ (Ro.nil _ _) (Nat.le_refl _)⟩
    · exact ⟨en_62, fun w hs => timed1_c b4 (T : Int) w (Ro.ofB hs (.there .here)) (by omega)⟩
  refine Ops.cm (α := Unit) (v := fun _ => .int .i64 0) (A' := fun _ => [row (some ⟨b5, 0, none⟩) 4 58 1 4 [.func (.func 77) #[] #[.pointer (some ⟨b1, 0, none⟩)], .func (.func 78) #[] #[.pointer (some ⟨b1, 0, none⟩), .pointer (some ⟨b2, 0, none⟩)], .func (.func 79) #[] #[.pointer (some ⟨b1, 0, none⟩), .pointer (some ⟨b3, 0, none⟩)], .func (.func 62) #[] #[.pointer (some ⟨b4, 0, none⟩)]], blk b4 3 [.int .i64 (T : Int)], blk b3 43 [.slice none 0 0], blk b2 43 [.slice ea evs.length ec], blk b1 40 [.slice na ns.length nc, .int .i64 ip, .slice sa ss.length sc]]) en_21 rfl (fun w hs => (first_c b5 4 ([(77, [.pointer (some ⟨b1, 0, none⟩)]), (78, [.pointer (some ⟨b1, 0, none⟩), .pointer (some ⟨b2, 0, none⟩)]), (79, [.pointer (some ⟨b1, 0, none⟩), .pointer (some ⟨b3, 0, none⟩)]), (62, [.pointer (some ⟨b4, 0, none⟩)])] : List FnV) w0 w ([blk b4 3 [.int .i64 (T : Int)], blk b3 43 [.slice none 0 0], blk b2 43 [.slice ea evs.length ec], blk b1 40 [.slice na ns.length nc, .int .i64 ip, .slice sa ss.length sc]]) (by show (4 : Nat) ≤ 100; decide) hf hs).mono fun e w' h => ⟨(), h.1, h.2⟩) ?_
  intro _
  refine Ops.q (q_asg rfl) ?_
  refine Ops.to rfl ?_
  refine Cd.seq ?_
  refine Cd.seq ?_
  refine Cd.region ?_
  refine Ops.q (q_mv rfl) ?_
  refine Ops.q (q_cmp rfl rfl (c_nne (by decide))) ?_
  refine Ops.to rfl ?_
  refine Cd.cond_f rfl ?_
  refine Cd.skipTo rfl ?_
  refine Cd.seq ?_
  refine Cd.region ?_
  refine Ops.mkmS ?_
  intro sm
  refine Ops.q (q_asg rfl) ?_
  refine Ops.to rfl ?_
  refine Cd.seq ?_
  refine Cd.seq ?_
  refine Cd.region ?_
  refine Ops.q (q_ldB isA_43 rfl .p3 rfl) ?_
  refine Ops.q (q_len esz_43 rfl) ?_
  refine Ops.q (q_mv rfl) ?_
  refine Ops.to rfl ?_
  refine Cd.block ?_
  refine Cd.lp (σ := Unit) (fun _ => True) (fun _ => [(3, .int .i64 (T : Int)), (4, .pointer (some ⟨b1, 0, none⟩)), (5, .pointer (some ⟨b2, 0, none⟩)), (6, .pointer (some ⟨b3, 0, none⟩)), (8, .slice none 0 0), (9, .int .i64 0), (11, .map (some sm)), (40, .slice none 0 0), (41, .int .i64 0), (42, .int .i64 0)]) (fun _ => [smap sm ([]), blk b3 43 [.slice none 0 0], blk b2 43 [.slice ea evs.length ec], blk b1 40 [.slice na ns.length nc, .int .i64 ip, .slice sa ss.length sc]]) (fun _ => 0) () trivial ⟨rfl, rfl, rfl, rfl, rfl, rfl, rfl, rfl, rfl, rfl, trivial⟩ (fun _ hs => ((hs.pull (.there .here)).drop.pull (.there .here)).drop) ?_
  intro s hI
  refine Cd.seq ?_
  refine Cd.region ?_
  refine Ops.q (q_cmp rfl rfl (c_nlt (by decide))) ?_
  refine Ops.to rfl ?_
  refine Cd.seq ?_
  refine Cd.cond_f rfl ?_
  refine Cd.exitTo rfl ?_
  refine Cd.seq ?_
  refine Cd.seq ?_
  refine Cd.region ?_
  refine Ops.q (q_ldB isA_43 rfl .p2 rfl) ?_
  refine Ops.q (q_len esz_43 rfl) ?_
  refine Ops.q (q_mv rfl) ?_
  refine Ops.to rfl ?_
  refine Cd.block ?_
  refine Cd.lp (σ := Nat) (fun k => k ≤ evs.length) (fun k => [(3, .int .i64 (T : Int)), (4, .pointer (some ⟨b1, 0, none⟩)), (5, .pointer (some ⟨b2, 0, none⟩)), (6, .pointer (some ⟨b3, 0, none⟩)), (8, .slice none 0 0), (9, .int .i64 0), (11, .map (some sm)), (49, .slice ea evs.length ec), (50, .int .i64 (evs.length : Int)), (51, .int .i64 (k : Int))]) (fun k => [smap sm ((evs.take k).map kvE), blk b3 43 [.slice none 0 0], blk b2 43 [.slice ea evs.length ec], blk b1 40 [.slice na ns.length nc, .int .i64 ip, .slice sa ss.length sc]]) (fun k => evs.length - k) 0 (Nat.zero_le _) ⟨rfl, rfl, rfl, rfl, rfl, rfl, rfl, rfl, rfl, rfl, trivial⟩ (fun _ hs => hs) ?_
  intro k hI
  refine Cd.seq ?_
  refine Cd.region ?_
  by_cases hk : (k : Int) < (evs.length : Int)
  · refine Ops.q (q_cmp rfl rfl (c_lt hk)) ?_
    obtain ⟨x6, hx7⟩ : ∃ x, evs[k]? = some x := ⟨_, List.getElem?_eq_getElem (by omega)⟩
    obtain ⟨ab8, ao9, rfl⟩ := RoL.pos hE eEvt_len hx7
    refine Ops.to rfl ?_
    refine Cd.seq ?_
    refine Cd.cond_t rfl ?_
    refine Cd.skipTo rfl ?_
    refine Cd.seq ?_
    refine Cd.block ?_
    refine Cd.seq ?_
    refine Cd.region ?_
    refine Ops.q (q_ix (k := k) esz_43 rfl rfl (by omega)) ?_
    refine Ops.q (q_ldRN [.int .i64 x6.tick, .int .i64 x6.id] isA_70 sz_70 rfl (fun j u hu => hE.at eEvt_len hx7 hu)) ?_
    refine Ops.alc [.int .i64 0, .int .i64 0] zc_70 ?_
    intro b10
    refine Ops.stB [.int .i64 x6.tick, .int .i64 x6.id] [.int .i64 x6.tick, .int .i64 x6.id] sz_70 rfl rfl rfl (one rfl) .here rfl rfl ?_
    refine Ops.to rfl ?_
    refine Cd.region ?_
    refine Ops.q (q_mv rfl) ?_
    refine Ops.q (q_ldBN [.int .i64 x6.tick, .int .i64 x6.id] isA_70 sz_70 rfl .here rfl) ?_
    refine Ops.mpuS (v := .int .i64 2) [x6.tick, x6.id] mpT_144 intS_70 rfl rfl rfl rfl kvE_len (kvE_none (ev_new hB.nod hx7) 0) (.there .here) ?_
    refine Ops.to rfl ?_
    refine Cd.region ?_
    refine Ops.q (q_ar rfl rfl (a_inc (by omega))) ?_
    refine Ops.q (q_mv rfl) ?_
    refine Ops.rnd (k + 1) rfl (by omega) (by omega) ⟨rfl, rfl, rfl, rfl, rfl, rfl, rfl, rfl, rfl, rfl, trivial⟩ (fun _ hs => by rw [take_get hx7, List.map_append]; exact (((((hs.pull .p4).pull .p4).pull .p4).pull .p4).pull .p4).drop) 
  · refine Ops.q (q_cmp rfl rfl (c_nlt (by omega))) ?_
    rw [show evs.take k = evs from List.take_of_length_le (by omega)]
    refine Ops.to rfl ?_
    refine Cd.seq ?_
    refine Cd.cond_f rfl ?_
    refine Cd.exitTo rfl ?_
    refine Cd.seq ?_
    refine Cd.region ?_
    refine Ops.q (q_fa fo_40_0 rfl) ?_
    refine Ops.q (q_ldB isA_37 rfl .p3 rfl) ?_
    refine Ops.q (q_len esz_37 rfl) ?_
    refine Ops.mks (m := ns.length) el_145 zsb_150 rfl rfl (by omega) (by omega) ?_
    intro cb
    refine Ops.q (q_asg rfl) ?_
    refine Ops.to rfl ?_
    refine Cd.seq ?_
    refine Cd.seq ?_
    refine Cd.region ?_
    refine Ops.q (q_fa fo_40_0 rfl) ?_
    refine Ops.q (q_ldB isA_37 rfl .p4 rfl) ?_
    refine Ops.q (q_len esz_37 rfl) ?_
    refine Ops.q (q_mv rfl) ?_
    refine Ops.to rfl ?_
    refine Cd.block ?_
    refine Cd.lp (σ := Nat × List Cel) (fun s => s.1 ≤ ns.length ∧ s.2.length = ns.length ∧ CelOK H s.2 s.1) (fun s => [(3, .int .i64 (T : Int)), (4, .pointer (some ⟨b1, 0, none⟩)), (5, .pointer (some ⟨b2, 0, none⟩)), (6, .pointer (some ⟨b3, 0, none⟩)), (8, .slice none 0 0), (9, .int .i64 0), (11, .map (some sm)), (16, .slice (some ⟨cb, 0, none⟩) ns.length ns.length), (63, .slice na ns.length nc), (64, .int .i64 (ns.length : Int)), (65, .int .i64 (s.1 : Int))]) (fun s => [rd (CMF s.2 (V 0) (s.1)), row (some ⟨cb, 0, none⟩) ns.length 150 9 ns.length (s.2.flatMap eCel), smap sm (evs.map kvE), blk b3 43 [.slice none 0 0], blk b2 43 [.slice ea evs.length ec], blk b1 40 [.slice na ns.length nc, .int .i64 ip, .slice sa ss.length sc]]) (fun s => ns.length - s.1) (0, List.replicate ns.length zCel) ⟨Nat.zero_le _, List.length_replicate, fun j hj => by omega⟩ ⟨rfl, rfl, rfl, rfl, rfl, rfl, rfl, rfl, rfl, rfl, rfl, trivial⟩ (fun _ hs => by rw [rep_cel] at hs; exact Sat.rd0 ((((((hs.pull .p4).pull .p4).pull .p4).pull .p4).pull .p4)) (fun w j p m hj => by omega)) ?_
    rintro ⟨k, cs⟩ hI
    dsimp only at hI
    change Cd _ _ _ _ _ _ _ [(3, .int .i64 (T : Int)), (4, .pointer (some ⟨b1, 0, none⟩)), (5, .pointer (some ⟨b2, 0, none⟩)), (6, .pointer (some ⟨b3, 0, none⟩)), (8, .slice none 0 0), (9, .int .i64 0), (11, .map (some sm)), (16, .slice (some ⟨cb, 0, none⟩) ns.length ns.length), (63, .slice na ns.length nc), (64, .int .i64 (ns.length : Int)), (65, .int .i64 (k : Int))] ([rd (CMF cs (V 0) (k)), row (some ⟨cb, 0, none⟩) ns.length 150 9 ns.length (cs.flatMap eCel), smap sm (evs.map kvE), blk b3 43 [.slice none 0 0], blk b2 43 [.slice ea evs.length ec], blk b1 40 [.slice na ns.length nc, .int .i64 ip, .slice sa ss.length sc]])
    obtain ⟨hI1, hI2, hI3⟩ := hI
    refine Cd.seq ?_
    refine Cd.region ?_
    by_cases hk : (k : Int) < (ns.length : Int)
    · refine Ops.q (q_cmp rfl rfl (c_lt hk)) ?_
      obtain ⟨x11, hx12⟩ : ∃ x, ns[k]? = some x := ⟨_, List.getElem?_eq_getElem (by omega)⟩
      obtain ⟨ab13, ao14, rfl⟩ := RoL.pos hN ePrm_len hx12
      obtain rfl := hB.gate k _ hx12
      refine Ops.to rfl ?_
      refine Cd.seq ?_
      refine Cd.cond_t rfl ?_
      refine Cd.skipTo rfl ?_
      refine Cd.seq ?_
      refine Cd.block ?_
      refine Cd.seq ?_
      refine Cd.region ?_
      refine Ops.q (q_mv rfl) ?_
      refine Ops.q (q_ix (k := k) esz_37 rfl rfl (by omega)) ?_
      refine Ops.q (q_ldRN [.int .i64 2, .int .i64 256, .int .i64 0, .int .i64 (H k), .int .i64 0, .int .i64 0, .int .i64 0, .int .i64 0] isA_62 sz_62 rfl (fun j u hu => hN.at ePrm_len hx12 hu)) ?_
      refine Ops.alc [.int .i64 0, .int .i64 0, .int .i64 0, .int .i64 0, .int .i64 0, .int .i64 0, .int .i64 0, .int .i64 0] zc_62 ?_
      intro b15
      refine Ops.q (q_asg rfl) ?_
      refine Ops.stB [.int .i64 2, .int .i64 256, .int .i64 0, .int .i64 (H k), .int .i64 0, .int .i64 0, .int .i64 0, .int .i64 0] [.int .i64 2, .int .i64 256, .int .i64 0, .int .i64 (H k), .int .i64 0, .int .i64 0, .int .i64 0, .int .i64 0] sz_62 rfl rfl rfl (one rfl) .here rfl rfl ?_
      refine Ops.to rfl ?_
      refine Cd.region ?_
      refine Ops.q (q_mv rfl) ?_
      refine Ops.q (q_mv rfl) ?_
      refine Ops.q (q_ldBN [.int .i64 2, .int .i64 256, .int .i64 0, .int .i64 (H k), .int .i64 0, .int .i64 0, .int .i64 0, .int .i64 0] isA_62 sz_62 rfl .here rfl) ?_
      refine Ops.mkmN ?_
      intro mb
      refine Ops.q (q_bld [.int .i64 0, .int .i64 0] pls_147 zc_147 rfl rfl) ?_
      refine Ops.insN mpT_148 iK_3 rfl rfl rfl .here ?_
      refine Ops.q (q_mv rfl) ?_
      refine Ops.q (q_bld [.int .i64 2, .int .i64 256, .int .i64 0, .int .i64 (H k), .int .i64 0, .int .i64 0, .int .i64 0, .int .i64 0, .map (some mb)] pls_150 zc_150 rfl rfl) ?_
      refine Ops.q (q_ix (k := k) esz_145 rfl rfl (by omega)) ?_
      refine Ops.stO [.int .i64 2, .int .i64 256, .int .i64 0, .int .i64 (H k), .int .i64 0, .int .i64 0, .int .i64 0, .int .i64 0, .map (some mb)] ((cs.set k (gateP (H k), some mb)).flatMap eCel) sz_150 rfl rfl rfl (one rfl) .p3 (by rw [fm_length eCel_len]; simp only [List.length_cons, List.length_nil]; omega) (fm_set eCel_len cs k (gateP (H k), some mb) (by omega)) ?_
      refine Ops.to rfl ?_
      refine Cd.region ?_
      refine Ops.q (q_ar rfl rfl (a_inc (by omega))) ?_
      refine Ops.q (q_mv rfl) ?_
      refine Ops.rnd ((k + 1, cs.set k (gateP (H k), some mb))) rfl (by dsimp only; exact (⟨by omega, by rw [List.length_set]; exact hI2, CelOK.next hI3 (by omega) rfl⟩)) (by dsimp only; omega) ⟨rfl, rfl, rfl, rfl, rfl, rfl, rfl, rfl, rfl, rfl, rfl, trivial⟩ (fun _ hs => Sat.merge (((((((((hs.pull .p7).pull .p7).pull .p7).pull .p7).pull .p7).pull .p7).pull .p6).pull .p7).drop) (fun w S h1 h2 => CMF.next h2 (by omega) h1.1 (hB.V0 k).symm (fun j hj hne => ⟨by omega, rfl⟩))) 
    · refine Ops.q (q_cmp rfl rfl (c_nlt (by omega))) ?_
      obtain rfl : k = ns.length := by omega
      refine Ops.to rfl ?_
      refine Cd.seq ?_
      refine Cd.cond_f rfl ?_
      refine Cd.exitTo rfl ?_
      refine Cd.seq ?_
      refine Cd.region ?_
      refine Ops.q (q_asg rfl) ?_
      refine Ops.to rfl ?_
      refine Cd.seq ?_
      refine Cd.seq ?_
      refine Cd.region ?_
      refine Ops.q (q_mv rfl) ?_
      refine Ops.q (q_mv rfl) ?_
      refine Ops.to rfl ?_
      refine Cd.block ?_
      refine Cd.lp (σ := Nat × List Cel × Option Addr × Nat × List NL) (fun s => s.1 ≤ T ∧ s.2.1.length = ns.length ∧ CelOK H s.2.1 ns.length ∧ s.2.2.2.2.map (·.2) = (List.range s.1).map (vrow F ns.length)) (fun s => [(4, .pointer (some ⟨b1, 0, none⟩)), (5, .pointer (some ⟨b2, 0, none⟩)), (6, .pointer (some ⟨b3, 0, none⟩)), (8, .slice none 0 0), (9, .int .i64 0), (11, .map (some sm)), (16, .slice (some ⟨cb, 0, none⟩) ns.length ns.length), (79, .int .i64 (T : Int)), (80, .int .i64 (s.1 : Int)), (19, .slice s.2.2.1 s.1 s.2.2.2.1)]) (fun s => [rd (CMF s.2.1 (V s.1) (ns.length)), rd (LLF s.2.2.2.2), row s.2.2.1 s.2.2.2.1 31 1 s.1 (s.2.2.2.2.flatMap eNL), row (some ⟨cb, 0, none⟩) ns.length 150 9 ns.length (s.2.1.flatMap eCel), smap sm (evs.map kvE), blk b3 43 [.slice none 0 0], blk b2 43 [.slice ea evs.length ec], blk b1 40 [.slice na ns.length nc, .int .i64 ip, .slice sa ss.length sc]]) (fun s => T - s.1) (0, cs, none, 0, []) ⟨Nat.zero_le _, hI2, hI3, rfl⟩ ⟨rfl, rfl, rfl, rfl, rfl, rfl, rfl, rfl, rfl, rfl, trivial⟩ (fun _ hs => (Sat.rd0 ((((((((hs.pull .p5).pull .p5).pull .p5).pull .p5).pull .p5).pull .p5)).nilRow 31 1) (fun w l hl => by cases hl)).pull .p2) ?_
      rintro ⟨t, cs, pa, pc, ls⟩ hI
      dsimp only at hI
      change Cd _ _ _ _ _ _ _ [(4, .pointer (some ⟨b1, 0, none⟩)), (5, .pointer (some ⟨b2, 0, none⟩)), (6, .pointer (some ⟨b3, 0, none⟩)), (8, .slice none 0 0), (9, .int .i64 0), (11, .map (some sm)), (16, .slice (some ⟨cb, 0, none⟩) ns.length ns.length), (79, .int .i64 (T : Int)), (80, .int .i64 (t : Int)), (19, .slice pa t pc)] ([rd (CMF cs (V t) (ns.length)), rd (LLF ls), row pa pc 31 1 t (ls.flatMap eNL), row (some ⟨cb, 0, none⟩) ns.length 150 9 ns.length (cs.flatMap eCel), smap sm (evs.map kvE), blk b3 43 [.slice none 0 0], blk b2 43 [.slice ea evs.length ec], blk b1 40 [.slice na ns.length nc, .int .i64 ip, .slice sa ss.length sc]])
      obtain ⟨hI1, hI2, hI3, hI4⟩ := hI
      refine Cd.seq ?_
      refine Cd.region ?_
      by_cases ht : (t : Int) < (T : Int)
      · refine Ops.q (q_cmp rfl rfl (c_lt ht)) ?_
        refine Ops.to rfl ?_
        refine Cd.seq ?_
        refine Cd.cond_t rfl ?_
        refine Cd.skipTo rfl ?_
        refine Cd.seq ?_
        refine Cd.block ?_
        refine Cd.seq ?_
        refine Cd.region ?_
        refine Ops.q (q_mv rfl) ?_
        refine Ops.q (q_asg rfl) ?_
        refine Ops.to rfl ?_
        refine Cd.seq ?_
        refine Cd.region ?_
        refine Ops.q (q_mv rfl) ?_
        refine Ops.q (q_len esz_145 rfl) ?_
        refine Ops.mks (m := ns.length) el_151 zsb_147 rfl rfl (by omega) (by omega) ?_
        intro b16
        refine Ops.q (q_asg rfl) ?_
        refine Ops.to rfl ?_
        refine Cd.seq ?_
        refine Cd.seq ?_
        refine Cd.region ?_
        refine Ops.q (q_fa fo_40_2 rfl) ?_
        refine Ops.q (q_ldB isA_38 rfl .p8 rfl) ?_
        refine Ops.q (q_len esz_38 rfl) ?_
        refine Ops.q (q_mv rfl) ?_
        refine Ops.to rfl ?_
        refine Cd.block ?_
        refine Cd.lp (σ := Nat) (fun k => k ≤ ss.length) (fun k => [(4, .pointer (some ⟨b1, 0, none⟩)), (5, .pointer (some ⟨b2, 0, none⟩)), (6, .pointer (some ⟨b3, 0, none⟩)), (8, .slice none 0 0), (9, .int .i64 0), (11, .map (some sm)), (16, .slice (some ⟨cb, 0, none⟩) ns.length ns.length), (79, .int .i64 (T : Int)), (80, .int .i64 (t : Int)), (19, .slice pa t pc), (20, .int .i64 (t : Int)), (21, .slice (some ⟨b16, 0, none⟩) ns.length ns.length), (87, .slice sa ss.length sc), (88, .int .i64 (ss.length : Int)), (89, .int .i64 (k : Int))]) (fun k => [row (some ⟨b16, 0, none⟩) ns.length 147 2 ns.length ((spx ss F idl t ns.length k).flatMap eSp), rd (CMF cs (V t) (ns.length)), rd (LLF ls), row pa pc 31 1 t (ls.flatMap eNL), row (some ⟨cb, 0, none⟩) ns.length 150 9 ns.length (cs.flatMap eCel), smap sm (evs.map kvE), blk b3 43 [.slice none 0 0], blk b2 43 [.slice ea evs.length ec], blk b1 40 [.slice na ns.length nc, .int .i64 ip, .slice sa ss.length sc]]) (fun k => ss.length - k) 0 (Nat.zero_le _) ⟨rfl, rfl, rfl, rfl, rfl, rfl, rfl, rfl, rfl, rfl, rfl, rfl, rfl, rfl, rfl, trivial⟩ (fun _ hs => by rw [spx_zero ss F idl t ns.length] at hs; exact (((((((((hs.pull .p8).pull .p8).pull .p8).pull .p8).pull .p8).pull .p8).pull .p8).pull .p8).pull .p8)) ?_
        intro k hI
        refine Cd.seq ?_
        refine Cd.region ?_
        by_cases hk : (k : Int) < (ss.length : Int)
        · refine Ops.q (q_cmp rfl rfl (c_lt hk)) ?_
          obtain ⟨x17, hx18⟩ : ∃ x, ss[k]? = some x := ⟨_, List.getElem?_eq_getElem (by omega)⟩
          obtain ⟨ab19, ao20, rfl⟩ := RoL.pos hS eSyn_len hx18
          have hxm := List.mem_iff_getElem?.2 ⟨k, hx18⟩
          have h4 := synE_ok (hsy x17 hxm)
          have hw := hB.wt x17 hxm
          obtain ⟨sx, xd, xw, xl⟩ := x17
          dsimp only at h4 hw
          subst hw
          unfold wi at h4
          obtain ⟨d, rfl⟩ : ∃ d : Nat, xd = (d : Int) := ⟨xd.toNat, by omega⟩
          obtain ⟨l, rfl⟩ : ∃ l : Nat, xl = (l : Int) := ⟨xl.toNat, by omega⟩
          have hdN : d < ns.length := by omega
          have hY := inX_bd F idl hB.wt t d k
          refine Ops.to rfl ?_
          refine Cd.seq ?_
          refine Cd.cond_t rfl ?_
          refine Cd.skipTo rfl ?_
          refine Cd.seq ?_
          refine Cd.block ?_
          refine Cd.seq ?_
          refine Cd.region ?_
          refine Ops.q (q_ix (k := k) esz_38 rfl rfl (by omega)) ?_
          refine Ops.q (q_ldRN [.int .i64 sx, .int .i64 (d : Int), .int .i64 1, .int .i64 (l : Int)] isA_109 sz_109 rfl (fun j u hu => hS.at eSyn_len hx18 hu)) ?_
          refine Ops.alc [.int .i64 0, .int .i64 0, .int .i64 0, .int .i64 0] zc_109 ?_
          intro b21
          refine Ops.stB [.int .i64 sx, .int .i64 (d : Int), .int .i64 1, .int .i64 (l : Int)] [.int .i64 sx, .int .i64 (d : Int), .int .i64 1, .int .i64 (l : Int)] sz_109 rfl rfl rfl (one rfl) .here rfl rfl ?_
          refine Ops.to rfl ?_
          refine Cd.seq ?_
          refine Cd.region ?_
          refine Ops.q (q_asg rfl) ?_
          refine Ops.to rfl ?_
          refine Cd.seq ?_
          refine Cd.seq ?_
          refine Cd.region ?_
          refine Ops.q (q_mv rfl) ?_
          refine Ops.q (q_fa fo_109_3 rfl) ?_
          refine Ops.q (q_ldB isA_3 rfl .here rfl) ?_
          refine Ops.q (q_ar rfl rfl (a_sub (by omega))) ?_
          refine Ops.q (q_asg rfl) ?_
          refine Ops.to rfl ?_
          refine Cd.block ?_
          refine Cd.seq ?_
          refine Cd.region ?_
          refine Ops.q (q_mv rfl) ?_
          by_cases hq : (t : Int) - (l : Int) < 0
          · refine Ops.q (q_cmp rfl rfl (c_lt hq)) ?_
            refine Ops.q (q_asg rfl) ?_
            refine Ops.to rfl ?_
            refine Cd.cond_t rfl ?_
            refine Cd.skipTo rfl ?_
            refine Cd.seq ?_
            refine Cd.region ?_
            refine Ops.q (q_mv rfl) ?_
            refine Ops.q (q_fa fo_109_1 rfl) ?_
            refine Ops.q (q_ldB isA_3 rfl .here rfl) ?_
            refine Ops.q (q_ix (k := d) esz_151 rfl rfl (by omega)) ?_
            refine Ops.q (q_asg rfl) ?_
            refine Ops.to rfl ?_
            refine Cd.seq ?_
            refine Cd.region ?_
            refine Ops.q (q_mv rfl) ?_
            refine Ops.to rfl ?_
            refine Cd.block ?_
            refine Cd.seq ?_
            refine Cd.region ?_
            refine Ops.q (q_cmp rfl rfl (c_neq (by decide))) ?_
            refine Ops.q (q_asg rfl) ?_
            refine Ops.to rfl ?_
            refine Cd.cond_f rfl ?_
            refine Cd.seq ?_
            refine Cd.region ?_
            refine Ops.q (q_cmp rfl rfl (c_neq (by decide))) ?_
            refine Ops.q (q_asg rfl) ?_
            refine Ops.to rfl ?_
            refine Cd.cond_f rfl ?_
            refine Cd.skipTo rfl ?_
            refine Cd.region ?_
            refine Ops.q (q_ar rfl rfl (a_inc (by omega))) ?_
            refine Ops.q (q_mv rfl) ?_
            refine Ops.rnd (k + 1) rfl (by omega) (by omega) ⟨rfl, rfl, rfl, rfl, rfl, rfl, rfl, rfl, rfl, rfl, rfl, rfl, rfl, rfl, rfl, trivial⟩ (fun _ hs => by rw [spx_no hx18 (fun h => by have h1 : (l : Int) ≤ (t : Int) := h.1; omega)] at hs; exact ((((((((((hs.pull .p9).pull .p9).pull .p9).pull .p9).pull .p9).pull .p9).pull .p9).pull .p9).pull .p9).pull .p9).drop) 
          · refine Ops.q (q_cmp rfl rfl (c_nlt (by omega))) ?_
            obtain ⟨q, hq2⟩ : ∃ q : Nat, (t : Int) - (l : Int) = (q : Int) := ⟨t - l, by omega⟩
            rw [hq2]
            refine Ops.q (q_asg rfl) ?_
            refine Ops.to rfl ?_
            refine Cd.cond_f rfl ?_
            refine Cd.seq ?_
            refine Cd.region ?_
            refine Ops.q (q_fa fo_109_0 rfl) ?_
            refine Ops.q (q_ldB isA_3 rfl .here rfl) ?_
            by_cases hsrc : 0 ≤ sx
            · refine Ops.q (q_cmp rfl rfl (c_ge hsrc)) ?_
              obtain ⟨p, rfl⟩ : ∃ p : Nat, sx = (p : Int) := ⟨sx.toNat, by omega⟩
              refine Ops.q (q_asg rfl) ?_
              refine Ops.to rfl ?_
              refine Cd.cond_t rfl ?_
              have hpN : p < ns.length := by omega
              have hqt : q < t := by omega
              obtain ⟨ra, rc, hl⟩ := ls_get hI4 hqt
              refine Cd.rowpos .p4 (by omega) ?_
              rintro pb rfl
              refine Cd.xpos (a := ra) (cs := (vrow F ns.length q).flatMap eInt) (fun w hs => (hs.read .p3) _ (List.mem_iff_getElem?.2 ⟨q, hl⟩)) (fm_pos eInt_len (vrow_get hpN)) ?_
              rintro rb ro rfl
              cases hF : F q p
              · refine Cd.draw rfl (by kernel_rfl) (.cons .p4 (.cons .p3 (.cons .here .nil))) ?_
                intro F22 St23 hP24 hF25 hR26
                refine Dr.q (i := 0) hP24 rfl (by kernel_rfl) (q_mv rfl) ?_
                refine Dr.q (i := 1) hP24 rfl (by kernel_rfl) (q_mv rfl) ?_
                refine Dr.q (i := 2) hP24 rfl (by kernel_rfl) (q_ix (k := q) esz_26 rfl rfl (by omega)) ?_
                refine Dr.q (i := 3) hP24 rfl (by kernel_rfl) (q_ldO (v := .slice (some ⟨rb, ro, none⟩) ((vrow F ns.length q).length) rc) isA_31 rfl .here (fm_at0 eNL_len hl rfl)) ?_
                refine Dr.q (i := 4) hP24 rfl (by kernel_rfl) (q_fa fo_109_0 rfl) ?_
                refine Dr.q (i := 5) hP24 rfl (by kernel_rfl) (q_ldB isA_3 rfl .p2 rfl) ?_
                refine Dr.q (i := 6) hP24 rfl (by kernel_rfl) (q_ix (k := p) esz_31 rfl rfl (by rw [vrow_len]; exact hpN)) ?_
                refine Dr.q (i := 7) hP24 rfl (by kernel_rfl) (q_ld (v := .int .i64 0) isA_3 rfl (fun w hs => by have h8 := vrow_get (F := F) (t := q) hpN; rw [hF] at h8; exact RoL.at0 ((hs.read (.there .here)) _ (List.mem_iff_getElem?.2 ⟨q, hl⟩)) eInt_len h8 rfl)) ?_
                refine Dr.tail 8 (by kernel_rfl) ?_
                refine Ops.sat ?_ (fun _ hs => hR26 .here hs)
                refine Ops.q (q_asg rfl) ?_
                refine Ops.to rfl ?_
                refine Cd.seq ?_
                refine Cd.region ?_
                refine Ops.q (q_mv rfl) ?_
                refine Ops.q (q_fa fo_109_1 rfl) ?_
                refine Ops.q (q_ldB isA_3 rfl .p2 rfl) ?_
                refine Ops.q (q_ix (k := d) esz_151 rfl rfl (by omega)) ?_
                refine Ops.q (q_asg rfl) ?_
                refine Ops.to rfl ?_
                refine Cd.seq ?_
                refine Cd.region ?_
                refine Ops.q (q_mv rfl) ?_
                refine Ops.to rfl ?_
                refine Cd.block ?_
                refine Cd.seq ?_
                refine Cd.region ?_
                refine Ops.q (q_cmp rfl rfl (c_neq (by decide))) ?_
                refine Ops.q (q_asg rfl) ?_
                refine Ops.to rfl ?_
                refine Cd.cond_f rfl ?_
                refine Cd.seq ?_
                refine Cd.region ?_
                refine Ops.q (q_cmp rfl rfl (c_neq (by decide))) ?_
                refine Ops.q (q_asg rfl) ?_
                refine Ops.to rfl ?_
                refine Cd.cond_f rfl ?_
                refine Cd.skipTo rfl ?_
                refine Cd.region ?_
                refine Ops.q (q_ar rfl rfl (a_inc (by omega))) ?_
                refine Ops.q (q_mv rfl) ?_
                refine Ops.rnd (k + 1) rfl (by omega) (by omega) ⟨rfl, rfl, rfl, rfl, rfl, rfl, rfl, rfl, rfl, rfl, rfl, rfl, rfl, rfl, rfl, trivial⟩ (fun _ hs => by rw [spx_no hx18 (fun h => by have h1 : srcF F idl ((t : Int) - (l : Int)).toNat (p : Int) = true := h.2; rw [hq2, Int.toNat_natCast, srcF_of, hF] at h1; cases h1)] at hs; exact ((((((((((hs.pull .p9).pull .p9).pull .p9).pull .p9).pull .p9).pull .p5).pull .p6).pull .p9).pull .p9).pull .p9).drop) 
              · refine Cd.draw rfl (by kernel_rfl) (.cons .p4 (.cons .p3 (.cons .here .nil))) ?_
                intro F27 St28 hP29 hF30 hR31
                refine Dr.q (i := 0) hP29 rfl (by kernel_rfl) (q_mv rfl) ?_
                refine Dr.q (i := 1) hP29 rfl (by kernel_rfl) (q_mv rfl) ?_
                refine Dr.q (i := 2) hP29 rfl (by kernel_rfl) (q_ix (k := q) esz_26 rfl rfl (by omega)) ?_
                refine Dr.q (i := 3) hP29 rfl (by kernel_rfl) (q_ldO (v := .slice (some ⟨rb, ro, none⟩) ((vrow F ns.length q).length) rc) isA_31 rfl .here (fm_at0 eNL_len hl rfl)) ?_
                refine Dr.q (i := 4) hP29 rfl (by kernel_rfl) (q_fa fo_109_0 rfl) ?_
                refine Dr.q (i := 5) hP29 rfl (by kernel_rfl) (q_ldB isA_3 rfl .p2 rfl) ?_
                refine Dr.q (i := 6) hP29 rfl (by kernel_rfl) (q_ix (k := p) esz_31 rfl rfl (by rw [vrow_len]; exact hpN)) ?_
                refine Dr.q (i := 7) hP29 rfl (by kernel_rfl) (q_ld (v := .int .i64 2) isA_3 rfl (fun w hs => by have h8 := vrow_get (F := F) (t := q) hpN; rw [hF] at h8; exact RoL.at0 ((hs.read (.there .here)) _ (List.mem_iff_getElem?.2 ⟨q, hl⟩)) eInt_len h8 rfl)) ?_
                refine Dr.tail 8 (by kernel_rfl) ?_
                refine Ops.sat ?_ (fun _ hs => hR31 .here hs)
                refine Ops.q (q_asg rfl) ?_
                refine Ops.to rfl ?_
                refine Cd.seq ?_
                refine Cd.region ?_
                refine Ops.q (q_mv rfl) ?_
                refine Ops.q (q_fa fo_109_1 rfl) ?_
                refine Ops.q (q_ldB isA_3 rfl .p2 rfl) ?_
                refine Ops.q (q_ix (k := d) esz_151 rfl rfl (by omega)) ?_
                refine Ops.q (q_asg rfl) ?_
                refine Ops.to rfl ?_
                refine Cd.seq ?_
                refine Cd.region ?_
                refine Ops.q (q_mv rfl) ?_
                refine Ops.to rfl ?_
                refine Cd.block ?_
                refine Cd.seq ?_
                refine Cd.region ?_
                refine Ops.q (q_cmp rfl rfl (c_eq (by decide))) ?_
                refine Ops.q (q_asg rfl) ?_
                refine Ops.to rfl ?_
                refine Cd.cond_t rfl ?_
                refine Cd.draw rfl (by kernel_rfl) (.cons .p2 .nil) ?_
                intro F32 St33 hP34 hF35 hR36
                refine Dr.q (i := 0) hP34 rfl (by kernel_rfl) (q_mv rfl) ?_
                refine Dr.q (i := 1) hP34 rfl (by kernel_rfl) (q_mv rfl) ?_
                refine Dr.q (i := 2) hP34 rfl (by kernel_rfl) (q_mv rfl) ?_
                refine Dr.q (i := 3) hP34 rfl (by kernel_rfl) (q_nck rfl) ?_
                refine Dr.q (i := 4) hP34 rfl (by kernel_rfl) (q_fa fo_147_0 rfl) ?_
                refine Dr.q (i := 6) hP34 rfl (by kernel_rfl) (q_fa fo_109_2 rfl) ?_
                refine Dr.q (i := 7) hP34 rfl (by kernel_rfl) (q_ldB isA_3 rfl .here rfl) ?_
                refine Dr.q (i := 9) hP34 rfl (by kernel_rfl) (q_mv rfl) ?_
                refine Dr.q (i := 10) hP34 rfl (by kernel_rfl) (q_nck rfl) ?_
                refine Dr.q (i := 11) hP34 rfl (by kernel_rfl) (q_fa fo_147_1 rfl) ?_
                refine Dr.q (i := 13) hP34 rfl (by kernel_rfl) (q_fa fo_109_2 rfl) ?_
                refine Dr.q (i := 14) hP34 rfl (by kernel_rfl) (q_ldB isA_3 rfl .here rfl) ?_
                refine Dr.e2 (i := 5) (j := 12) rfl rfl (by kernel_rfl) ?_ ?_
                · refine Ops.q (q_ldO (v := .int .i64 (inX (ss.take k) F idl t d)) isA_3 rfl .p3 (fm_at eSp_len (spx_get hdN) rfl)) ?_
                  refine Dr.back (fun _ hs => hF35 .here hs) ?_
                  refine Dr.q (i := 8) hP34 rfl (by kernel_rfl) (q_ar rfl rfl (a_add (by omega))) ?_
                  refine Dr.e (i := 12) rfl (by kernel_rfl) ?_
                  refine Ops.q (q_ldO (v := .int .i64 (inX (ss.take k) F idl t d)) isA_3 rfl .p3 (fm_at eSp_len (spx_get hdN) rfl)) ?_
                  refine Dr.back (fun _ hs => hF35 .here hs) ?_
                  refine Dr.q (i := 15) hP34 rfl (by kernel_rfl) (q_ar rfl rfl (a_add (by omega))) ?_
                  refine Dr.q (i := 16) hP34 rfl (by kernel_rfl) (q_nck rfl) ?_
                  refine Dr.q (i := 17) hP34 rfl (by kernel_rfl) (q_fa fo_147_0 rfl) ?_
                  refine Dr.e (i := 18) rfl (by kernel_rfl) ?_
                  refine Ops.stO [.int .i64 ((inX (ss.take k) F idl t d) + 1)] (((spx ss F idl t ns.length k).set d ((inX (ss.take k) F idl t d) + 1, inX (ss.take k) F idl t d)).flatMap eSp) sz_3 rfl rfl rfl (one rfl) .p3 (by rw [fm_length eSp_len]; simp only [List.length_cons, List.length_nil, List.length_set, spx_len]; omega) (by rw [Nat.zero_add]; exact fm_put eSp_len (o := 0) (vs := [.int .i64 ((inX (ss.take k) F idl t d) + 1)]) (y := ((inX (ss.take k) F idl t d) + 1, inX (ss.take k) F idl t d)) (by show 1 ≤ 2; decide) (spx_get hdN) rfl) ?_
                  refine Dr.back (fun _ hs => hF35 .here hs) ?_
                  refine Dr.tail 19 (by kernel_rfl) ?_
                  refine Ops.sat ?_ (fun _ hs => hR36 .here hs)
                  refine Ops.q (q_nck rfl) ?_
                  refine Ops.q (q_fa fo_147_1 rfl) ?_
                  refine Ops.stO [.int .i64 ((inX (ss.take k) F idl t d) + 1)] ((((spx ss F idl t ns.length k).set d ((inX (ss.take k) F idl t d) + 1, inX (ss.take k) F idl t d)).set d ((inX (ss.take k) F idl t d) + 1, (inX (ss.take k) F idl t d) + 1)).flatMap eSp) sz_3 rfl rfl rfl (one rfl) .p3 (by rw [fm_length eSp_len]; simp only [List.length_cons, List.length_nil, List.length_set, spx_len]; omega) (by rw [Nat.zero_add]; exact fm_put eSp_len (o := 1) (vs := [.int .i64 ((inX (ss.take k) F idl t d) + 1)]) (y := ((inX (ss.take k) F idl t d) + 1, (inX (ss.take k) F idl t d) + 1)) (by show 2 ≤ 2; decide) (List.getElem?_set_self (by rw [spx_len]; exact hdN)) rfl) ?_
                  refine Ops.to rfl ?_
                  refine Cd.region ?_
                  refine Ops.q (q_ar rfl rfl (a_inc (by omega))) ?_
                  refine Ops.q (q_mv rfl) ?_
                  refine Ops.rnd (k + 1) rfl (by omega) (by omega) ⟨rfl, rfl, rfl, rfl, rfl, rfl, rfl, rfl, rfl, rfl, rfl, rfl, rfl, rfl, rfl, trivial⟩ (fun _ hs => by rw [List.set_set, spx_yes hx18 (⟨by show (l : Int) ≤ (t : Int); omega, by show srcF F idl ((t : Int) - (l : Int)).toNat (p : Int) = true; rw [hq2, Int.toNat_natCast, srcF_of]; exact hF⟩) rfl rfl] at hs; exact ((((((((((hs.pull .p9).pull .p9).pull .p9).pull .p9).pull .p9).pull .p6).pull .p7).pull .p9).pull .p9).pull .p9).drop) 
                · refine Ops.q (q_ldO (v := .int .i64 (inX (ss.take k) F idl t d)) isA_3 rfl .p3 (fm_at eSp_len (spx_get hdN) rfl)) ?_
                  refine Dr.back (fun _ hs => hF35 .here hs) ?_
                  refine Dr.q (i := 15) hP34 rfl (by kernel_rfl) (q_ar rfl rfl (a_add (by omega))) ?_
                  refine Dr.e (i := 5) rfl (by kernel_rfl) ?_
                  refine Ops.q (q_ldO (v := .int .i64 (inX (ss.take k) F idl t d)) isA_3 rfl .p3 (fm_at eSp_len (spx_get hdN) rfl)) ?_
                  refine Dr.back (fun _ hs => hF35 .here hs) ?_
                  refine Dr.q (i := 8) hP34 rfl (by kernel_rfl) (q_ar rfl rfl (a_add (by omega))) ?_
                  refine Dr.q (i := 16) hP34 rfl (by kernel_rfl) (q_nck rfl) ?_
                  refine Dr.q (i := 17) hP34 rfl (by kernel_rfl) (q_fa fo_147_0 rfl) ?_
                  refine Dr.e (i := 18) rfl (by kernel_rfl) ?_
                  refine Ops.stO [.int .i64 ((inX (ss.take k) F idl t d) + 1)] (((spx ss F idl t ns.length k).set d ((inX (ss.take k) F idl t d) + 1, inX (ss.take k) F idl t d)).flatMap eSp) sz_3 rfl rfl rfl (one rfl) .p3 (by rw [fm_length eSp_len]; simp only [List.length_cons, List.length_nil, List.length_set, spx_len]; omega) (by rw [Nat.zero_add]; exact fm_put eSp_len (o := 0) (vs := [.int .i64 ((inX (ss.take k) F idl t d) + 1)]) (y := ((inX (ss.take k) F idl t d) + 1, inX (ss.take k) F idl t d)) (by show 1 ≤ 2; decide) (spx_get hdN) rfl) ?_
                  refine Dr.back (fun _ hs => hF35 .here hs) ?_
                  refine Dr.tail 19 (by kernel_rfl) ?_
                  refine Ops.sat ?_ (fun _ hs => hR36 .here hs)
                  refine Ops.q (q_nck rfl) ?_
                  refine Ops.q (q_fa fo_147_1 rfl) ?_
                  refine Ops.stO [.int .i64 ((inX (ss.take k) F idl t d) + 1)] ((((spx ss F idl t ns.length k).set d ((inX (ss.take k) F idl t d) + 1, inX (ss.take k) F idl t d)).set d ((inX (ss.take k) F idl t d) + 1, (inX (ss.take k) F idl t d) + 1)).flatMap eSp) sz_3 rfl rfl rfl (one rfl) .p3 (by rw [fm_length eSp_len]; simp only [List.length_cons, List.length_nil, List.length_set, spx_len]; omega) (by rw [Nat.zero_add]; exact fm_put eSp_len (o := 1) (vs := [.int .i64 ((inX (ss.take k) F idl t d) + 1)]) (y := ((inX (ss.take k) F idl t d) + 1, (inX (ss.take k) F idl t d) + 1)) (by show 2 ≤ 2; decide) (List.getElem?_set_self (by rw [spx_len]; exact hdN)) rfl) ?_
                  refine Ops.to rfl ?_
                  refine Cd.region ?_
                  refine Ops.q (q_ar rfl rfl (a_inc (by omega))) ?_
                  refine Ops.q (q_mv rfl) ?_
                  refine Ops.rnd (k + 1) rfl (by omega) (by omega) ⟨rfl, rfl, rfl, rfl, rfl, rfl, rfl, rfl, rfl, rfl, rfl, rfl, rfl, rfl, rfl, trivial⟩ (fun _ hs => by rw [List.set_set, spx_yes hx18 (⟨by show (l : Int) ≤ (t : Int); omega, by show srcF F idl ((t : Int) - (l : Int)).toNat (p : Int) = true; rw [hq2, Int.toNat_natCast, srcF_of]; exact hF⟩) rfl rfl] at hs; exact ((((((((((hs.pull .p9).pull .p9).pull .p9).pull .p9).pull .p9).pull .p6).pull .p7).pull .p9).pull .p9).pull .p9).drop) 
            · refine Ops.q (q_cmp rfl rfl (c_nge (by omega))) ?_
              refine Ops.q (q_asg rfl) ?_
              refine Ops.to rfl ?_
              refine Cd.cond_f rfl ?_
              by_cases hE : (⟨(q : Int), -1 - sx⟩ : Evt) ∈ evs
              · refine Cd.region ?_
                refine Ops.q (q_mv rfl) ?_
                refine Ops.q (q_mv rfl) ?_
                refine Ops.q (q_fa fo_109_0 rfl) ?_
                refine Ops.q (q_ldB isA_3 rfl .here rfl) ?_
                refine Ops.q (q_ar rfl rfl (a_sub (by omega))) ?_
                refine Ops.q (q_bld [.int .i64 (q : Int), .int .i64 ((-1) - sx)] pls_70 zc_70 rfl rfl) ?_
                refine Ops.q (q_lookS (v := .int .i64 2) [(q : Int), -1 - sx] mpT_144 intS_70 rfl rfl rfl (fun w hs => hs.roM .p6) kvE_len (fun w => .inl (kvE_some hE 0))) ?_
                refine Ops.q (q_asg rfl) ?_
                refine Ops.to rfl ?_
                refine Cd.seq ?_
                refine Cd.region ?_
                refine Ops.q (q_mv rfl) ?_
                refine Ops.q (q_fa fo_109_1 rfl) ?_
                refine Ops.q (q_ldB isA_3 rfl .here rfl) ?_
                refine Ops.q (q_ix (k := d) esz_151 rfl rfl (by omega)) ?_
                refine Ops.q (q_asg rfl) ?_
                refine Ops.to rfl ?_
                refine Cd.seq ?_
                refine Cd.region ?_
                refine Ops.q (q_mv rfl) ?_
                refine Ops.to rfl ?_
                refine Cd.block ?_
                refine Cd.seq ?_
                refine Cd.region ?_
                refine Ops.q (q_cmp rfl rfl (c_eq (by decide))) ?_
                refine Ops.q (q_asg rfl) ?_
                refine Ops.to rfl ?_
                refine Cd.cond_t rfl ?_
                refine Cd.draw rfl (by kernel_rfl) (.cons .here .nil) ?_
                intro F37 St38 hP39 hF40 hR41
                refine Dr.q (i := 0) hP39 rfl (by kernel_rfl) (q_mv rfl) ?_
                refine Dr.q (i := 1) hP39 rfl (by kernel_rfl) (q_mv rfl) ?_
                refine Dr.q (i := 2) hP39 rfl (by kernel_rfl) (q_mv rfl) ?_
                refine Dr.q (i := 3) hP39 rfl (by kernel_rfl) (q_nck rfl) ?_
                refine Dr.q (i := 4) hP39 rfl (by kernel_rfl) (q_fa fo_147_0 rfl) ?_
                refine Dr.q (i := 6) hP39 rfl (by kernel_rfl) (q_fa fo_109_2 rfl) ?_
                refine Dr.q (i := 7) hP39 rfl (by kernel_rfl) (q_ldB isA_3 rfl .here rfl) ?_
                refine Dr.q (i := 9) hP39 rfl (by kernel_rfl) (q_mv rfl) ?_
                refine Dr.q (i := 10) hP39 rfl (by kernel_rfl) (q_nck rfl) ?_
                refine Dr.q (i := 11) hP39 rfl (by kernel_rfl) (q_fa fo_147_1 rfl) ?_
                refine Dr.q (i := 13) hP39 rfl (by kernel_rfl) (q_fa fo_109_2 rfl) ?_
                refine Dr.q (i := 14) hP39 rfl (by kernel_rfl) (q_ldB isA_3 rfl .here rfl) ?_
                refine Dr.e2 (i := 5) (j := 12) rfl rfl (by kernel_rfl) ?_ ?_
                · refine Ops.q (q_ldO (v := .int .i64 (inX (ss.take k) F idl t d)) isA_3 rfl (.there .here) (fm_at eSp_len (spx_get hdN) rfl)) ?_
                  refine Dr.back (fun _ hs => hF40 .here hs) ?_
                  refine Dr.q (i := 8) hP39 rfl (by kernel_rfl) (q_ar rfl rfl (a_add (by omega))) ?_
                  refine Dr.e (i := 12) rfl (by kernel_rfl) ?_
                  refine Ops.q (q_ldO (v := .int .i64 (inX (ss.take k) F idl t d)) isA_3 rfl (.there .here) (fm_at eSp_len (spx_get hdN) rfl)) ?_
                  refine Dr.back (fun _ hs => hF40 .here hs) ?_
                  refine Dr.q (i := 15) hP39 rfl (by kernel_rfl) (q_ar rfl rfl (a_add (by omega))) ?_
                  refine Dr.q (i := 16) hP39 rfl (by kernel_rfl) (q_nck rfl) ?_
                  refine Dr.q (i := 17) hP39 rfl (by kernel_rfl) (q_fa fo_147_0 rfl) ?_
                  refine Dr.e (i := 18) rfl (by kernel_rfl) ?_
                  refine Ops.stO [.int .i64 ((inX (ss.take k) F idl t d) + 1)] (((spx ss F idl t ns.length k).set d ((inX (ss.take k) F idl t d) + 1, inX (ss.take k) F idl t d)).flatMap eSp) sz_3 rfl rfl rfl (one rfl) (.there .here) (by rw [fm_length eSp_len]; simp only [List.length_cons, List.length_nil, List.length_set, spx_len]; omega) (by rw [Nat.zero_add]; exact fm_put eSp_len (o := 0) (vs := [.int .i64 ((inX (ss.take k) F idl t d) + 1)]) (y := ((inX (ss.take k) F idl t d) + 1, inX (ss.take k) F idl t d)) (by show 1 ≤ 2; decide) (spx_get hdN) rfl) ?_
                  refine Dr.back (fun _ hs => hF40 .here hs) ?_
                  refine Dr.tail 19 (by kernel_rfl) ?_
                  refine Ops.sat ?_ (fun _ hs => hR41 .here hs)
                  refine Ops.q (q_nck rfl) ?_
                  refine Ops.q (q_fa fo_147_1 rfl) ?_
                  refine Ops.stO [.int .i64 ((inX (ss.take k) F idl t d) + 1)] ((((spx ss F idl t ns.length k).set d ((inX (ss.take k) F idl t d) + 1, inX (ss.take k) F idl t d)).set d ((inX (ss.take k) F idl t d) + 1, (inX (ss.take k) F idl t d) + 1)).flatMap eSp) sz_3 rfl rfl rfl (one rfl) (.there .here) (by rw [fm_length eSp_len]; simp only [List.length_cons, List.length_nil, List.length_set, spx_len]; omega) (by rw [Nat.zero_add]; exact fm_put eSp_len (o := 1) (vs := [.int .i64 ((inX (ss.take k) F idl t d) + 1)]) (y := ((inX (ss.take k) F idl t d) + 1, (inX (ss.take k) F idl t d) + 1)) (by show 2 ≤ 2; decide) (List.getElem?_set_self (by rw [spx_len]; exact hdN)) rfl) ?_
                  refine Ops.to rfl ?_
                  refine Cd.region ?_
                  refine Ops.q (q_ar rfl rfl (a_inc (by omega))) ?_
                  refine Ops.q (q_mv rfl) ?_
                  refine Ops.rnd (k + 1) rfl (by omega) (by omega) ⟨rfl, rfl, rfl, rfl, rfl, rfl, rfl, rfl, rfl, rfl, rfl, rfl, rfl, rfl, rfl, trivial⟩ (fun _ hs => by rw [List.set_set, spx_yes hx18 (⟨by show (l : Int) ≤ (t : Int); omega, by show srcF F idl ((t : Int) - (l : Int)).toNat sx = true; rw [hq2, Int.toNat_natCast, srcF_neg _ _ _ hsrc]; exact decide_eq_true ((hB.known q _).1 hE)⟩) rfl rfl] at hs; exact ((((((((((hs.pull .p9).pull .p9).pull .p9).pull .p9).pull .p9).pull .p9).pull .p9).pull .p9).pull .p9).pull .p9).drop) 
                · refine Ops.q (q_ldO (v := .int .i64 (inX (ss.take k) F idl t d)) isA_3 rfl (.there .here) (fm_at eSp_len (spx_get hdN) rfl)) ?_
                  refine Dr.back (fun _ hs => hF40 .here hs) ?_
                  refine Dr.q (i := 15) hP39 rfl (by kernel_rfl) (q_ar rfl rfl (a_add (by omega))) ?_
                  refine Dr.e (i := 5) rfl (by kernel_rfl) ?_
                  refine Ops.q (q_ldO (v := .int .i64 (inX (ss.take k) F idl t d)) isA_3 rfl (.there .here) (fm_at eSp_len (spx_get hdN) rfl)) ?_
                  refine Dr.back (fun _ hs => hF40 .here hs) ?_
                  refine Dr.q (i := 8) hP39 rfl (by kernel_rfl) (q_ar rfl rfl (a_add (by omega))) ?_
                  refine Dr.q (i := 16) hP39 rfl (by kernel_rfl) (q_nck rfl) ?_
                  refine Dr.q (i := 17) hP39 rfl (by kernel_rfl) (q_fa fo_147_0 rfl) ?_
                  refine Dr.e (i := 18) rfl (by kernel_rfl) ?_
                  refine Ops.stO [.int .i64 ((inX (ss.take k) F idl t d) + 1)] (((spx ss F idl t ns.length k).set d ((inX (ss.take k) F idl t d) + 1, inX (ss.take k) F idl t d)).flatMap eSp) sz_3 rfl rfl rfl (one rfl) (.there .here) (by rw [fm_length eSp_len]; simp only [List.length_cons, List.length_nil, List.length_set, spx_len]; omega) (by rw [Nat.zero_add]; exact fm_put eSp_len (o := 0) (vs := [.int .i64 ((inX (ss.take k) F idl t d) + 1)]) (y := ((inX (ss.take k) F idl t d) + 1, inX (ss.take k) F idl t d)) (by show 1 ≤ 2; decide) (spx_get hdN) rfl) ?_
                  refine Dr.back (fun _ hs => hF40 .here hs) ?_
                  refine Dr.tail 19 (by kernel_rfl) ?_
                  refine Ops.sat ?_ (fun _ hs => hR41 .here hs)
                  refine Ops.q (q_nck rfl) ?_
                  refine Ops.q (q_fa fo_147_1 rfl) ?_
                  refine Ops.stO [.int .i64 ((inX (ss.take k) F idl t d) + 1)] ((((spx ss F idl t ns.length k).set d ((inX (ss.take k) F idl t d) + 1, inX (ss.take k) F idl t d)).set d ((inX (ss.take k) F idl t d) + 1, (inX (ss.take k) F idl t d) + 1)).flatMap eSp) sz_3 rfl rfl rfl (one rfl) (.there .here) (by rw [fm_length eSp_len]; simp only [List.length_cons, List.length_nil, List.length_set, spx_len]; omega) (by rw [Nat.zero_add]; exact fm_put eSp_len (o := 1) (vs := [.int .i64 ((inX (ss.take k) F idl t d) + 1)]) (y := ((inX (ss.take k) F idl t d) + 1, (inX (ss.take k) F idl t d) + 1)) (by show 2 ≤ 2; decide) (List.getElem?_set_self (by rw [spx_len]; exact hdN)) rfl) ?_
                  refine Ops.to rfl ?_
                  refine Cd.region ?_
                  refine Ops.q (q_ar rfl rfl (a_inc (by omega))) ?_
                  refine Ops.q (q_mv rfl) ?_
                  refine Ops.rnd (k + 1) rfl (by omega) (by omega) ⟨rfl, rfl, rfl, rfl, rfl, rfl, rfl, rfl, rfl, rfl, rfl, rfl, rfl, rfl, rfl, trivial⟩ (fun _ hs => by rw [List.set_set, spx_yes hx18 (⟨by show (l : Int) ≤ (t : Int); omega, by show srcF F idl ((t : Int) - (l : Int)).toNat sx = true; rw [hq2, Int.toNat_natCast, srcF_neg _ _ _ hsrc]; exact decide_eq_true ((hB.known q _).1 hE)⟩) rfl rfl] at hs; exact ((((((((((hs.pull .p9).pull .p9).pull .p9).pull .p9).pull .p9).pull .p9).pull .p9).pull .p9).pull .p9).pull .p9).drop) 
              · refine Cd.region ?_
                refine Ops.q (q_mv rfl) ?_
                refine Ops.q (q_mv rfl) ?_
                refine Ops.q (q_fa fo_109_0 rfl) ?_
                refine Ops.q (q_ldB isA_3 rfl .here rfl) ?_
                refine Ops.q (q_ar rfl rfl (a_sub (by omega))) ?_
                refine Ops.q (q_bld [.int .i64 (q : Int), .int .i64 ((-1) - sx)] pls_70 zc_70 rfl rfl) ?_
                refine Ops.q (q_lookS (v := .int .i64 0) [(q : Int), -1 - sx] mpT_144 intS_70 rfl rfl rfl (fun w hs => hs.roM .p6) kvE_len (fun w => .inr ⟨kvE_none hE 0, run_zv zv_3 w⟩)) ?_
                refine Ops.q (q_asg rfl) ?_
                refine Ops.to rfl ?_
                refine Cd.seq ?_
                refine Cd.region ?_
                refine Ops.q (q_mv rfl) ?_
                refine Ops.q (q_fa fo_109_1 rfl) ?_
                refine Ops.q (q_ldB isA_3 rfl .here rfl) ?_
                refine Ops.q (q_ix (k := d) esz_151 rfl rfl (by omega)) ?_
                refine Ops.q (q_asg rfl) ?_
                refine Ops.to rfl ?_
                refine Cd.seq ?_
                refine Cd.region ?_
                refine Ops.q (q_mv rfl) ?_
                refine Ops.to rfl ?_
                refine Cd.block ?_
                refine Cd.seq ?_
                refine Cd.region ?_
                refine Ops.q (q_cmp rfl rfl (c_neq (by decide))) ?_
                refine Ops.q (q_asg rfl) ?_
                refine Ops.to rfl ?_
                refine Cd.cond_f rfl ?_
                refine Cd.seq ?_
                refine Cd.region ?_
                refine Ops.q (q_cmp rfl rfl (c_neq (by decide))) ?_
                refine Ops.q (q_asg rfl) ?_
                refine Ops.to rfl ?_
                refine Cd.cond_f rfl ?_
                refine Cd.skipTo rfl ?_
                refine Cd.region ?_
                refine Ops.q (q_ar rfl rfl (a_inc (by omega))) ?_
                refine Ops.q (q_mv rfl) ?_
                refine Ops.rnd (k + 1) rfl (by omega) (by omega) ⟨rfl, rfl, rfl, rfl, rfl, rfl, rfl, rfl, rfl, rfl, rfl, rfl, rfl, rfl, rfl, trivial⟩ (fun _ hs => by rw [spx_no hx18 (fun h => by have h1 : srcF F idl ((t : Int) - (l : Int)).toNat sx = true := h.2; rw [hq2, Int.toNat_natCast, srcF_neg _ _ _ hsrc] at h1; exact hE ((hB.known q _).2 (of_decide_eq_true h1)))] at hs; exact ((((((((((hs.pull .p9).pull .p9).pull .p9).pull .p9).pull .p9).pull .p9).pull .p9).pull .p9).pull .p9).pull .p9).drop) 
        · refine Ops.q (q_cmp rfl rfl (c_nlt (by omega))) ?_
          obtain rfl : k = ss.length := by omega
          refine Ops.to rfl ?_
          refine Cd.seq ?_
          refine Cd.cond_f rfl ?_
          refine Cd.exitTo rfl ?_
          refine Cd.seq ?_
          refine Cd.region ?_
          refine Ops.q (q_mv rfl) ?_
          refine Ops.q (q_len esz_145 rfl) ?_
          refine Ops.mks (m := ns.length) el_31 zsb_3 rfl rfl (by omega) (by omega) ?_
          intro b42
          refine Ops.q (q_asg rfl) ?_
          refine Ops.to rfl ?_
          refine Cd.seq ?_
          refine Cd.seq ?_
          refine Cd.region ?_
          refine Ops.q (q_mv rfl) ?_
          refine Ops.q (q_len esz_145 rfl) ?_
          refine Ops.q (q_mv rfl) ?_
          refine Ops.to rfl ?_
          refine Cd.block ?_
          refine Cd.lp (σ := Nat × List Cel) (fun s => s.1 ≤ ns.length ∧ s.2.length = ns.length ∧ CelOK H s.2 ns.length) (fun s => [(4, .pointer (some ⟨b1, 0, none⟩)), (5, .pointer (some ⟨b2, 0, none⟩)), (6, .pointer (some ⟨b3, 0, none⟩)), (8, .slice none 0 0), (9, .int .i64 0), (11, .map (some sm)), (16, .slice (some ⟨cb, 0, none⟩) ns.length ns.length), (79, .int .i64 (T : Int)), (80, .int .i64 (t : Int)), (19, .slice pa t pc), (21, .slice (some ⟨b16, 0, none⟩) ns.length ns.length), (27, .slice (some ⟨b42, 0, none⟩) ns.length ns.length), (174, .slice (some ⟨cb, 0, none⟩) ns.length ns.length), (175, .int .i64 (ns.length : Int)), (176, .int .i64 (s.1 : Int))]) (fun s => [rd (CMF s.2 (Vm V t s.1) (ns.length)), row (some ⟨b42, 0, none⟩) ns.length 3 1 ns.length ((vmid F ns.length t s.1).flatMap eInt), row (some ⟨b16, 0, none⟩) ns.length 147 2 ns.length ((spx ss F idl t ns.length ss.length).flatMap eSp), rd (LLF ls), row pa pc 31 1 t (ls.flatMap eNL), row (some ⟨cb, 0, none⟩) ns.length 150 9 ns.length (s.2.flatMap eCel), smap sm (evs.map kvE), blk b3 43 [.slice none 0 0], blk b2 43 [.slice ea evs.length ec], blk b1 40 [.slice na ns.length nc, .int .i64 ip, .slice sa ss.length sc]]) (fun s => ns.length - s.1) (0, cs) ⟨Nat.zero_le _, hI2, hI3⟩ ⟨rfl, rfl, rfl, rfl, rfl, rfl, rfl, rfl, rfl, rfl, rfl, rfl, rfl, rfl, rfl, trivial⟩ (fun _ hs => by rw [vmid_zero F ns.length t, ← Vm_zero V t] at hs; exact ((((((((((hs.pull .p9).pull .p9).pull .p9).pull .p9).pull .p9).pull .p9).pull .p9).pull .p8).pull .p8).pull .p9)) ?_
          rintro ⟨i, cs⟩ hI
          dsimp only at hI
          change Cd _ _ _ _ _ _ _ [(4, .pointer (some ⟨b1, 0, none⟩)), (5, .pointer (some ⟨b2, 0, none⟩)), (6, .pointer (some ⟨b3, 0, none⟩)), (8, .slice none 0 0), (9, .int .i64 0), (11, .map (some sm)), (16, .slice (some ⟨cb, 0, none⟩) ns.length ns.length), (79, .int .i64 (T : Int)), (80, .int .i64 (t : Int)), (19, .slice pa t pc), (21, .slice (some ⟨b16, 0, none⟩) ns.length ns.length), (27, .slice (some ⟨b42, 0, none⟩) ns.length ns.length), (174, .slice (some ⟨cb, 0, none⟩) ns.length ns.length), (175, .int .i64 (ns.length : Int)), (176, .int .i64 (i : Int))] ([rd (CMF cs (Vm V t i) (ns.length)), row (some ⟨b42, 0, none⟩) ns.length 3 1 ns.length ((vmid F ns.length t i).flatMap eInt), row (some ⟨b16, 0, none⟩) ns.length 147 2 ns.length ((spx ss F idl t ns.length ss.length).flatMap eSp), rd (LLF ls), row pa pc 31 1 t (ls.flatMap eNL), row (some ⟨cb, 0, none⟩) ns.length 150 9 ns.length (cs.flatMap eCel), smap sm (evs.map kvE), blk b3 43 [.slice none 0 0], blk b2 43 [.slice ea evs.length ec], blk b1 40 [.slice na ns.length nc, .int .i64 ip, .slice sa ss.length sc]])
          obtain ⟨hc1, hc2, hc3⟩ := hI
          refine Cd.seq ?_
          refine Cd.region ?_
          by_cases hi0 : (i : Int) < (ns.length : Int)
          · refine Ops.q (q_cmp rfl rfl (c_lt hi0)) ?_
            have hi : i < ns.length := by omega
            have hvl := vmid_len F ns.length t i
            obtain ⟨m, hm⟩ := hc3 i hi
            have hX := inX_bd F idl hB.wt t i ss.length
            rw [List.take_length] at hX
            refine Ops.to rfl ?_
            refine Cd.seq ?_
            refine Cd.cond_t rfl ?_
            refine Cd.skipTo rfl ?_
            refine Cd.seq ?_
            refine Cd.block ?_
            refine Cd.seq ?_
            refine Cd.region ?_
            refine Ops.q (q_mv rfl) ?_
            refine Ops.q (q_asg rfl) ?_
            refine Ops.to rfl ?_
            refine Cd.draw rfl (by kernel_rfl) (.cons .p2 .nil) ?_
            intro F43 St44 hP45 hF46 hR47
            refine Dr.q (i := 0) hP45 rfl (by kernel_rfl) (q_mv rfl) ?_
            refine Dr.q (i := 1) hP45 rfl (by kernel_rfl) (q_mv rfl) ?_
            refine Dr.q (i := 2) hP45 rfl (by kernel_rfl) (q_mv rfl) ?_
            refine Dr.q (i := 3) hP45 rfl (by kernel_rfl) (q_mv rfl) ?_
            refine Dr.q (i := 4) hP45 rfl (by kernel_rfl) (q_ix (k := i) esz_145 rfl rfl (by omega)) ?_
            refine Dr.q (i := 5) hP45 rfl (by kernel_rfl) (q_mv rfl) ?_
            refine Dr.q (i := 6) hP45 rfl (by kernel_rfl) (q_mv rfl) ?_
            refine Dr.q (i := 7) hP45 rfl (by kernel_rfl) (q_ix (k := i) esz_151 rfl rfl (by omega)) ?_
            refine Dr.q (i := 8) hP45 rfl (by kernel_rfl) (q_ldON [.int .i64 (inX ss F idl t i), .int .i64 (inX ss F idl t i)] isA_147 sz_147 rfl .here (fm_atN eSp_len (spx_full hi))) ?_
            refine Dr.e (i := 9) rfl (by kernel_rfl) ?_
            refine Ops.cm (α := Nat) (v := fun _ => .int .i64 (if H i ≤ inX ss F idl t i then 2 else 0)) (A' := fun nb => [row (some ⟨cb, 0, none⟩) ns.length 150 9 ns.length ((cs.set i (gateP (H i), some nb)).flatMap eCel), vmap nb (sp (if H i ≤ inX ss F idl t i then 0 else inX ss F idl t i)), F43, rd (CMF cs (Vm V t i) (ns.length)), row (some ⟨b42, 0, none⟩) ns.length 3 1 ns.length ((vmid F ns.length t i).flatMap eInt), rd (LLF ls), row pa pc 31 1 t (ls.flatMap eNL), smap sm (evs.map kvE), blk b3 43 [.slice none 0 0], blk b2 43 [.slice ea evs.length ec], blk b1 40 [.slice na ns.length nc, .int .i64 ip, .slice sa ss.length sc]]) en_80 rfl ?_ ?_
            · intro w hs
              have h9 := vtick_c cb ns.length i m cs (H i) (V t i) (inX ss F idl t i) w0 w ([F43, rd (CMF cs (Vm V t i) (ns.length)), row (some ⟨b42, 0, none⟩) ns.length 3 1 ns.length ((vmid F ns.length t i).flatMap eInt), rd (LLF ls), row pa pc 31 1 t (ls.flatMap eNL), smap sm (evs.map kvE), blk b3 43 [.slice none 0 0], blk b2 43 [.slice ea evs.length ec], blk b1 40 [.slice na ns.length nc, .int .i64 ip, .slice sa ss.length sc]]) hm (by omega) (hB.hH i) (hB.Vb t i hi) (by omega) (fun w hs => by have h8 := (hs.read (.there .here)) i _ m hi hm; rw [Vm_self] at h8; exact h8) (by rw [hc2]; exact ((((((((((hs.pull .p9).pull .p9).pull .p9).pull .p9).pull .p8).pull .p8).pull .p8).pull .p8).pull .p8).pull .p9))
              rw [hc2] at h9; exact h9
            intro nb
            refine Dr.back (fun _ hs => hF46 .p2 hs) ?_
            refine Dr.tail 10 (by kernel_rfl) ?_
            refine Ops.sat ?_ (fun _ hs => hR47 .p2 hs)
            refine Ops.q (q_ix (k := i) esz_31 rfl rfl (by omega)) ?_
            refine Ops.stO [.int .i64 (if H i ≤ inX ss F idl t i then 2 else 0)] (((vmid F ns.length t i).set i (if H i ≤ inX ss F idl t i then 2 else 0)).flatMap eInt) sz_3 rfl rfl rfl (one rfl) .p4 (by rw [fm_length eInt_len]; simp only [List.length_cons, List.length_nil]; omega) (fm_set eInt_len (vmid F ns.length t i) i (if H i ≤ inX ss F idl t i then 2 else 0) (by omega)) ?_
            refine Ops.to rfl ?_
            refine Cd.region ?_
            refine Ops.q (q_ar rfl rfl (a_inc (by omega))) ?_
            refine Ops.q (q_mv rfl) ?_
            refine Ops.rnd ((i + 1, cs.set i (gateP (H i), some nb))) rfl (by dsimp only; exact (⟨by omega, by rw [List.length_set]; exact hc2, CelOK.set hc3 (by omega) rfl⟩)) (by dsimp only; omega) ⟨rfl, rfl, rfl, rfl, rfl, rfl, rfl, rfl, rfl, rfl, rfl, rfl, rfl, rfl, rfl, trivial⟩ (fun _ hs => by rw [vmid_set hi (by rw [hB.fire t i hi]; unfold vd; by_cases h : H i ≤ inX ss F idl t i <;> simp [h])] at hs; exact Sat.merge ((((((((((((hs.pull .p10).pull .p10).pull .p10).pull .p10).pull .p5).pull .p10).pull .p10).pull .p7).pull .p10).pull .p10).pull .p10)) (fun w S h1 h2 => CMF.next h2 (by omega) h1.1 (by rw [Vm_next, hB.Vn t i hi]) (fun j hj hne => ⟨hj, Vm_ne V hne⟩))) 
          · refine Ops.q (q_cmp rfl rfl (c_nlt (by omega))) ?_
            obtain rfl : i = ns.length := by omega
            refine Ops.sat ?_ (fun _ hs => Sat.froz (ψ := CMF cs (V (t + 1)) ns.length) (((((((((((hs.pull .p9).pull .p9).pull .p9).pull .p9).pull .p9).pull .p9).pull .p9).pull .p9).pull .p9).pull .p9)) (fun w S h => h.1.full))
            refine Ops.to rfl ?_
            refine Cd.seq ?_
            refine Cd.cond_f rfl ?_
            refine Cd.exitTo rfl ?_
            refine Cd.region ?_
            refine Ops.q (q_mv rfl) ?_
            refine Ops.q (q_mv rfl) ?_
            refine Ops.lit [.slice (some ⟨b42, 0, none⟩) ns.length ns.length] el_26 zsb_31 rfl rfl ⟨by decide, by decide⟩ rfl ?_
            intro b48
            refine Ops.app (news := [.slice (some ⟨b42, 0, none⟩) ns.length ns.length]) el_26 zsb_31 (by decide) rfl rfl (fun _ hs => hs.ownRo .here) (fun _ hs => (hs.pull .here).drop) (fun _ _ => .p4) rfl (one rfl) (by omega) (by omega) ?_
            intro a49 c50
            refine Ops.q (q_asg rfl) ?_
            refine Ops.to rfl ?_
            refine Cd.region ?_
            refine Ops.q (q_ar rfl rfl (a_inc (by omega))) ?_
            refine Ops.q (q_mv rfl) ?_
            refine Ops.rnd ((t + 1, cs, a49, c50, ls ++ [((some ⟨b42, 0, none⟩, ns.length), vrow F ns.length t)])) rfl (by dsimp only; exact (⟨by omega, hc2, hc3, ls_next hI4 rfl⟩)) (by dsimp only; omega) ⟨rfl, rfl, rfl, rfl, rfl, rfl, rfl, rfl, rfl, rfl, trivial⟩ (fun _ hs => by rw [vmid_full] at hs; have h1 := Sat.merge (ψ := LLF (ls ++ [((some ⟨b42, 0, none⟩, ns.length), vrow F ns.length t)])) (((((((((((hs.pull .p9).pull .p9).pull .p9).pull .p9).pull .p9).pull .p5).pull .p9).pull .p9).pull .p8).pull .p9).drop) (fun w S h1 h2 => LLF.next h2 (ro_of_rowP h1)); rw [ls_fm F ns.length t ls _ _] at h1; exact ((h1.pull .p2))) 
      · refine Ops.q (q_cmp rfl rfl (c_nlt (by omega))) ?_
        obtain rfl : t = T := by omega
        refine Ops.to rfl ?_
        refine Cd.seq ?_
        refine Cd.cond_f rfl ?_
        refine Cd.exitTo rfl ?_
        refine Cd.seq ?_
        refine Cd.region ?_
        refine Ops.q (q_mv rfl) ?_
        refine Ops.q (q_asg rfl) ?_
        refine Ops.q (q_asg rfl) ?_
        refine Ops.to rfl ?_
        refine Cd.rt (fn := Tryz.f38) [.slice pa t pc, .int .i64 0] (by with_reducible repeat (first | exact rq_here | apply rq_then | apply rq_block)) rfl ⟨rfl, rfl, trivial⟩ ?_
        intro w' hs'
        exact ⟨(pa, pc, ls), rfl, hI4, ((((((((hs'.pull (.there .here)).pull .p2).pull .p2).drop.pull .p2).drop.pull .p2).drop.pull .p2).drop.pull .p2).drop.pull .p2).drop⟩
end Go.Proofs.YtilcdghliigngaaGreatDoor
namespace Go.Proofs.YtilcdghliigngaaGreatDoor
open Go.RowKit Go.Proofs.YtilcdghliigngaaGreatDoorGl Go.Proofs.YtilcdghliigngaaGreatDoorPm
set_option linter.unusedVariables false
set_option linter.unusedSimpArgs false
theorem evF_mem (idl : Nat → List Int) : ∀ (f now : Nat) (e : Evt), e ∈ evF idl now f ↔ ∃ t : Nat, now ≤ t ∧ t < now + f ∧ e.tick = (t : Int) ∧ e.id ∈ idl t
  | 0, now, e => by simp [evF]; intro x h1 h2; omega
  | f + 1, now, e => by
    have ih := evF_mem idl f (now + 1) e
    rw [evF, List.mem_append, ih]
    constructor
    · rintro (h | ⟨t, h1, h2, h3, h4⟩)
      · obtain ⟨i, hi, rfl⟩ := List.mem_map.1 h
        exact ⟨now, Nat.le_refl _, by omega, rfl, hi⟩
      · exact ⟨t, by omega, by omega, h3, h4⟩
    · rintro ⟨t, h1, h2, h3, h4⟩
      by_cases c : t = now
      · subst c
        exact .inl (List.mem_map.2 ⟨e.id, h4, by cases e; simp at h3; simp [h3]⟩)
      · exact .inr ⟨t, by omega, by omega, h3, h4⟩
theorem evF_nodup {idl : Nat → List Int} (h : ∀ t, (idl t).Nodup) : ∀ (f now : Nat), (evF idl now f).Nodup
  | 0, now => by simp [evF]
  | f + 1, now => by
    rw [evF]
    refine List.nodup_append.2 ⟨nodup_map (fun a b e => by simpa using e) (h now), evF_nodup h f (now + 1), fun a ha b hb e => ?_⟩
    obtain ⟨i, _, rfl⟩ := List.mem_map.1 ha
    have := evF_ge idl f (now + 1) b hb
    rw [← e] at this
    dsimp only at this
    omega
namespace AutOK
variable {nx : List (List Int)} {st : Int} {acc : List Bool} {ws : List Int} {k : Nat} (h : AutOK nx st acc ws k)
include h
omit h in
theorem nlen : (autN nx st acc k).ns.length = nx.length + nx.length * k + 1 := mNs_len _ _ _
omit h in
theorem idl_none {t : Nat} (ht : 3 * ws.length + 20 ≤ t) : idlA ws k t = [] := by
  unfold idlA
  rw [if_neg (by omega), if_neg (by omega)]; rfl
theorem bnd (hs8 : nx.length ≤ 8) (hk4 : k ≤ 4) (hl : ws.length ≤ 40) : BndI (autN nx st acc k).ns (autN nx st acc k).inp (autN nx st acc k).ss (evA ws k) (autF nx st acc ws k) (idlA ws k) (autV nx st acc ws k) (hN nx.length k) := by
  have hX : ∀ t d, 0 ≤ inX (autSs nx st acc k) (autF nx st acc ws k) (idlA ws k) t d := fun t d => (inX_one (ss := autSs nx st acc k) (F := autF nx st acc ws k) (idl := idlA ws k) (k := t) (d := d) (fun s hs _ => h.wt1 hs)).1
  have hP := h.prep hs8 hk4 hl
  have hH : ∀ d, 1 ≤ hN nx.length k d ∧ hN nx.length k d ≤ 2 := fun d => by unfold hN; split <;> omega
  refine ⟨h.net, ?_, fun d => by have := hH d; omega, fun s hs => h.wt1 hs, fun t d hd => h.fires (by rw [nlen] at hd; exact hd), fun d => rfl, fun t d _ => rfl, fun t d _ => ?_, fun t i => ?_, ?_, ?_⟩
  · intro d p hp
    obtain ⟨hd, e⟩ := List.getElem?_eq_some_iff.1 hp
    rw [← e]
    simp [autN, mNs]
  · cases t with
    | zero => show (0 : Int) ≤ 0 ∧ (0 : Int) ≤ 1; omega
    | succ t =>
      show (0 : Int) ≤ (if hN nx.length k d ≤ inX (autSs nx st acc k) (autF nx st acc ws k) (idlA ws k) t d then 0 else inX (autSs nx st acc k) (autF nx st acc ws k) (idlA ws k) t d) ∧ (if hN nx.length k d ≤ inX (autSs nx st acc k) (autF nx st acc ws k) (idlA ws k) t d then 0 else inX (autSs nx st acc k) (autF nx st acc ws k) (idlA ws k) t d) ≤ 1
      have h1 := hX t d; have h2 := hH d
      split <;> omega
  · rw [← evF_eq, evF_mem]
    constructor
    · rintro ⟨t', _, _, h3, h4⟩
      obtain rfl : t = t' := Int.ofNat.inj h3
      exact h4
    · intro hi
      refine ⟨t, Nat.zero_le _, ?_, rfl, hi⟩
      by_cases c : t < 0 + (3 * ws.length + 20)
      · exact c
      · rw [idl_none (by omega)] at hi; cases hi
  · rw [← evF_eq]
    exact evF_nodup (fun t => (h.idl_ok t).1.imp (fun h => by omega)) _ _
  · unfold preparedE at hP
    have h1 : netCheck ⟨(autN nx st acc k).ns, (autN nx st acc k).inp, (autN nx st acc k).ss⟩ = 0 := h.net
    rw [if_neg (by rw [h1]; decide), if_pos (by unfold wi; omega)] at hP
    obtain ⟨_, _, _, h2, h3, _⟩ := netCheck_ok h1
    exact ⟨h2, h3, hP⟩
end AutOK
end Go.Proofs.YtilcdghliigngaaGreatDoor
namespace Go.Proofs.YtilcdghliigngaaGreatDoor
open Go.RowKit Go.Proofs.YtilcdghliigngaaGreatDoorGl Go.Proofs.YtilcdghliigngaaGreatDoorPm
set_option linter.unusedVariables false
set_option linter.unusedSimpArgs false
def cv (b : Bool) : Int := if b = true then 1 else -1
theorem bounds_q (na : Option Addr) (nc : Nat) (sa : Option Addr) (sc : Nat) (ns : List Prm) (ip : Int) (ss : List Syn) (ea : Option Addr) (ec : Nat) (evs : List Evt) (T : Nat) (F : Nat → Nat → Bool) (idl : Nat → List Int) (V : Nat → Nat → Int) (H : Nat → Int) (w0 : World) (hN : RoL w0 na ePrm ns) (hS : RoL w0 sa eSyn ss) (hE : RoL w0 ea eEvt evs) (hec : evs.length ≤ ec) (hel : evs.length ≤ 1000) (hB : BndI ns ip ss evs F idl V H) (hnl : ns.length ≤ 1000) (hT : T ≤ 1000) : Calls Tryz.prog 38 [.agg [.slice na ns.length nc, .int .i64 ip, .slice sa ss.length sc].toArray, .slice ea evs.length ec, .slice none 0 0, .int .i64 (T : Int)].toArray w0 fun e w' => ∃ p : {p : Option Addr × Nat × List NL // p.2.2.map (fun l : NL => l.2) = (List.range T).map (vrow F ns.length)}, e = .returned (.tuple [.slice p.1.1 T p.1.2.1, .int .i64 0].toArray) ∧ Sat w0 w' [row p.1.1 p.1.2.1 31 1 T (p.1.2.2.flatMap eNL), rd (LLF p.1.2.2)] :=
  (bounds_c na nc sa sc ns ip ss ea ec evs T F idl V H w0 hN hS hE hec hel hB hnl hT).mono fun e w' ⟨p, h1, h2, h3⟩ => ⟨⟨p, h2⟩, h1, h3⟩
theorem certain_c (na : Option Addr) (nc : Nat) (sa : Option Addr) (sc : Nat) (ns : List Prm) (ip : Int) (ss : List Syn) (ea : Option Addr) (ec : Nat) (evs : List Evt) (F : Nat → Nat → Bool) (idl : Nat → List Int) (V : Nat → Nat → Int) (H : Nat → Int) (qa : Option Addr) (qc at_ m : Nat) (w0 : World) (hN : RoL w0 na ePrm ns) (hS : RoL w0 sa eSyn ss) (hE : RoL w0 ea eEvt evs) (hec : evs.length ≤ ec) (hel : evs.length ≤ 1000) (hB : BndI ns ip ss evs F idl V H) (hnl : ns.length ≤ 1000) (hat : at_ < 999) (hQ : RoL w0 qa eInt [(m : Int)]) (hm : m < ns.length) : Calls Tryz.prog 12 [.agg [.slice na ns.length nc, .int .i64 ip, .slice sa ss.length sc].toArray, .slice ea evs.length ec, .slice none 0 0, .int .i64 ((at_ + 1 : Nat) : Int), .agg [.int .i64 2, .slice qa 1 qc, .int .i64 (at_ : Int), .int .i64 ((at_ + 1 : Nat) : Int), .int .i64 1, .int .i64 1].toArray].toArray w0 fun e w' => e = .returned (.tuple [.int .i64 (cv (F at_ m)), .int .i64 0].toArray) ∧ Sat w0 w' [] := by
  refine fstart Tryz.func12 rfl rfl (Sat.nil w0) ?_
  refine Cd.seq ?_
  refine Cd.region ?_
  refine Ops.box [.slice na ns.length nc, .int .i64 ip, .slice sa ss.length sc] rfl rfl ?_
  intro b1
  refine Ops.box [.int .i64 ((at_ + 1 : Nat) : Int)] rfl rfl ?_
  intro b2
  refine Ops.box [.int .i64 2, .slice qa 1 qc, .int .i64 (at_ : Int), .int .i64 ((at_ + 1 : Nat) : Int), .int .i64 1, .int .i64 1] rfl rfl ?_
  intro b3
  refine Ops.q (q_asg rfl) ?_
  refine Ops.q (q_asg rfl) ?_
  refine Ops.to rfl ?_
  refine Cd.seq ?_
  refine Cd.region ?_
  refine Ops.q (q_ldBN [.slice na ns.length nc, .int .i64 ip, .slice sa ss.length sc] isA_40 sz_40 rfl .p2 rfl) ?_
  refine Ops.q (q_mv rfl) ?_
  refine Ops.q (q_mv rfl) ?_
  refine Ops.q (q_ldB isA_3 rfl (.there .here) rfl) ?_
  refine Ops.cl (α := {p : Option Addr × Nat × List NL // p.2.2.map (fun l : NL => l.2) = (List.range (at_ + 1)).map (vrow F ns.length)}) (v := fun p => .tuple [.slice p.1.1 (at_ + 1) p.1.2.1, .int .i64 0].toArray) (B := fun p => [row p.1.1 p.1.2.1 31 1 (at_ + 1) (p.1.2.2.flatMap eNL), rd (LLF p.1.2.2)]) en_38 rfl (fun w hs => bounds_q na nc sa sc ns ip ss ea ec evs (at_ + 1) F idl V H w (hN.later hs.below) (hS.later hs.below) (hE.later hs.below) hec hel hB hnl (by omega)) ?_
  rintro ⟨⟨pa, pc, ls⟩, hls⟩
  dsimp only at hls
  refine Ops.rowpos .here (by omega) ?_
  rintro pb h9
  dsimp only at h9
  subst h9
  refine Ops.q (q_mv rfl) ?_
  refine Ops.q (q_ext rfl rfl) ?_
  refine Ops.q (q_ext rfl rfl) ?_
  refine Ops.q (q_asg rfl) ?_
  refine Ops.q (q_asg rfl) ?_
  refine Ops.to rfl ?_
  refine Cd.seq ?_
  refine Cd.seq ?_
  refine Cd.region ?_
  refine Ops.q (q_mv rfl) ?_
  refine Ops.q (q_cmp rfl rfl (c_eq (by decide))) ?_
  refine Ops.to rfl ?_
  refine Cd.cond_t rfl ?_
  refine Cd.region ?_
  refine Ops.q (q_mkf rfl rfl) ?_
  refine Ops.q (q_mkf rfl rfl) ?_
  refine Ops.lit [.func (.func 39) #[] #[.pointer (some ⟨b3, 0, none⟩), .pointer (some ⟨b1, 0, none⟩)], .func (.func 41) #[] #[.pointer (some ⟨b3, 0, none⟩), .pointer (some ⟨b2, 0, none⟩)]] el_115 zsb_58 rfl rfl ⟨by decide, by decide⟩ rfl ?_
  intro b4
  have hf : ∀ f ∈ ([(39, [.pointer (some ⟨b3, 0, none⟩), .pointer (some ⟨b1, 0, none⟩)]), (41, [.pointer (some ⟨b3, 0, none⟩), .pointer (some ⟨b2, 0, none⟩)])] : List FnV), Enters Tryz.prog f.1 ∧ ∀ w, Sat w0 w ([row (some ⟨b4, 0, none⟩) 2 58 1 2 [.func (.func 39) #[] #[.pointer (some ⟨b3, 0, none⟩), .pointer (some ⟨b1, 0, none⟩)], .func (.func 41) #[] #[.pointer (some ⟨b3, 0, none⟩), .pointer (some ⟨b2, 0, none⟩)]], row (some ⟨pb, 0, none⟩) pc 31 1 (at_ + 1) (ls.flatMap eNL), rd (LLF ls), blk b3 56 [.int .i64 2, .slice qa 1 qc, .int .i64 (at_ : Int), .int .i64 ((at_ + 1 : Nat) : Int), .int .i64 1, .int .i64 1], blk b2 3 [.int .i64 ((at_ + 1 : Nat) : Int)], blk b1 40 [.slice na ns.length nc, .int .i64 ip, .slice sa ss.length sc]]) → Calls Tryz.prog f.1 ([] ++ [] ++ f.2).toArray w fun e w' => e = .returned (.int .i64 0) ∧ Sat w w' [] := by
    intro f hf
    simp only [List.mem_cons, List.not_mem_nil, or_false] at hf
    rcases hf with rfl | rfl
    · exact ⟨en_39, fun w hs => claim1_c b3 b1 qa qc at_ m na nc sa sc ns ip ss w (Ro.ofB hs .p3) (Ro.ofB hs .p5) (hQ.later hs.below) hm hnl (by omega)⟩
    · exact ⟨en_41, fun w hs => claim2_c b3 b2 qa qc at_ w (Ro.ofB hs .p3) (Ro.ofB hs .p4)⟩
  refine Ops.cm (α := Unit) (v := fun _ => .int .i64 0) (A' := fun _ => [row (some ⟨b4, 0, none⟩) 2 58 1 2 [.func (.func 39) #[] #[.pointer (some ⟨b3, 0, none⟩), .pointer (some ⟨b1, 0, none⟩)], .func (.func 41) #[] #[.pointer (some ⟨b3, 0, none⟩), .pointer (some ⟨b2, 0, none⟩)]], row (some ⟨pb, 0, none⟩) pc 31 1 (at_ + 1) (ls.flatMap eNL), rd (LLF ls), blk b3 56 [.int .i64 2, .slice qa 1 qc, .int .i64 (at_ : Int), .int .i64 ((at_ + 1 : Nat) : Int), .int .i64 1, .int .i64 1], blk b2 3 [.int .i64 ((at_ + 1 : Nat) : Int)], blk b1 40 [.slice na ns.length nc, .int .i64 ip, .slice sa ss.length sc]]) en_21 rfl (fun w hs => (first_c b4 2 ([(39, [.pointer (some ⟨b3, 0, none⟩), .pointer (some ⟨b1, 0, none⟩)]), (41, [.pointer (some ⟨b3, 0, none⟩), .pointer (some ⟨b2, 0, none⟩)])] : List FnV) w0 w ([row (some ⟨pb, 0, none⟩) pc 31 1 (at_ + 1) (ls.flatMap eNL), rd (LLF ls), blk b3 56 [.int .i64 2, .slice qa 1 qc, .int .i64 (at_ : Int), .int .i64 ((at_ + 1 : Nat) : Int), .int .i64 1, .int .i64 1], blk b2 3 [.int .i64 ((at_ + 1 : Nat) : Int)], blk b1 40 [.slice na ns.length nc, .int .i64 ip, .slice sa ss.length sc]]) (by show (2 : Nat) ≤ 100; decide) hf hs).mono fun e w' h => ⟨(), h.1, h.2⟩) ?_
  intro _
  refine Ops.q (q_asg rfl) ?_
  refine Ops.to rfl ?_
  refine Cd.seq ?_
  refine Cd.seq ?_
  refine Cd.region ?_
  refine Ops.q (q_mv rfl) ?_
  refine Ops.q (q_cmp rfl rfl (c_nne (by decide))) ?_
  refine Ops.to rfl ?_
  refine Cd.cond_f rfl ?_
  refine Cd.skipTo rfl ?_
  refine Cd.seq ?_
  refine Cd.region ?_
  refine Ops.q (q_fa fo_56_0 rfl) ?_
  refine Ops.q (q_ldB isA_3 rfl .p3 rfl) ?_
  refine Ops.cp en_43 rfl (fun w hs => kinds_c w) ?_
  refine Ops.q (q_mv rfl) ?_
  refine Ops.q (q_ext rfl rfl) ?_
  refine Ops.q (q_ext rfl rfl) ?_
  refine Ops.alc [.nilFunc, .nilFunc] zc_100 ?_
  intro b5
  refine Ops.stB [.func (.func 83) #[] #[], .func (.func 84) #[] #[]] [.func (.func 83) #[] #[], .func (.func 84) #[] #[]] sz_100 rfl rfl rfl (one rfl) .here rfl rfl ?_
  refine Ops.q (q_asg rfl) ?_
  refine Ops.to rfl ?_
  refine Cd.seq ?_
  refine Cd.region ?_
  refine Ops.q (q_fa fo_100_1 rfl) ?_
  refine Ops.q (q_ldB isA_98 rfl .here rfl) ?_
  refine Ops.q (q_ldBN [.int .i64 2, .slice qa 1 qc, .int .i64 (at_ : Int), .int .i64 ((at_ + 1 : Nat) : Int), .int .i64 1, .int .i64 1] isA_56 sz_56 rfl .p4 rfl) ?_
  refine Ops.q (q_mv rfl) ?_
  obtain ⟨ra, rc, hl0⟩ := ls_get hls (q := at_) (by omega)
  have hll : ls.length = at_ + 1 := by have := congrArg List.length hls; simpa using this
  cases hF : F at_ m
  · have hu := vrow_get (F := F) (t := at_) hm
    rw [hF] at hu
    refine Ops.cv (α := Unit) (k := 84) (first := []) (caps := []) (vs := [.agg [.int .i64 2, .slice qa 1 qc, .int .i64 (at_ : Int), .int .i64 ((at_ + 1 : Nat) : Int), .int .i64 1, .int .i64 1].toArray, .slice (some ⟨pb, 0, none⟩) (at_ + 1) pc]) (v := fun _ => .int .i64 (-1)) (A' := fun _ => [blk b5 100 [.func (.func 83) #[] #[], .func (.func 84) #[] #[]], row (some ⟨b4, 0, none⟩) 2 58 1 2 [.func (.func 39) #[] #[.pointer (some ⟨b3, 0, none⟩), .pointer (some ⟨b1, 0, none⟩)], .func (.func 41) #[] #[.pointer (some ⟨b3, 0, none⟩), .pointer (some ⟨b2, 0, none⟩)]], row (some ⟨pb, 0, none⟩) pc 31 1 (at_ + 1) (ls.flatMap eNL), rd (LLF ls), blk b3 56 [.int .i64 2, .slice qa 1 qc, .int .i64 (at_ : Int), .int .i64 ((at_ + 1 : Nat) : Int), .int .i64 1, .int .i64 1], blk b2 3 [.int .i64 ((at_ + 1 : Nat) : Int)], blk b1 40 [.slice na ns.length nc, .int .i64 ip, .slice sa ss.length sc]]) en_84 rfl rfl ?_ ?_
    · intro w hs
      have hle := sat_rowle hs .p2
      have h9 := counts0_c qa qc at_ m pb 0 pc ls ra rc (vrow F ns.length at_) w (hQ.later hs.below) ⟨hs.ownRo .p2, hs.read .p3⟩ hll (by omega) (by omega) hl0 hu
      exact h9.mono fun e w' h => ⟨(), h.1, hs.over h.2⟩
    intro _
    refine Ops.q (q_asg rfl) ?_
    refine Ops.q (q_asg rfl) ?_
    refine Ops.to rfl ?_
    refine Cd.rt (fn := Tryz.f12) [.int .i64 (-1), .int .i64 0] (by with_reducible repeat (first | exact rq_here | apply rq_then | apply rq_block)) rfl ⟨rfl, rfl, trivial⟩ ?_
    intro w' hs'
    exact ⟨rfl, hs'.none⟩
  · have hu := vrow_get (F := F) (t := at_) hm
    rw [hF] at hu
    refine Ops.cv (α := Unit) (k := 84) (first := []) (caps := []) (vs := [.agg [.int .i64 2, .slice qa 1 qc, .int .i64 (at_ : Int), .int .i64 ((at_ + 1 : Nat) : Int), .int .i64 1, .int .i64 1].toArray, .slice (some ⟨pb, 0, none⟩) (at_ + 1) pc]) (v := fun _ => .int .i64 (1)) (A' := fun _ => [blk b5 100 [.func (.func 83) #[] #[], .func (.func 84) #[] #[]], row (some ⟨b4, 0, none⟩) 2 58 1 2 [.func (.func 39) #[] #[.pointer (some ⟨b3, 0, none⟩), .pointer (some ⟨b1, 0, none⟩)], .func (.func 41) #[] #[.pointer (some ⟨b3, 0, none⟩), .pointer (some ⟨b2, 0, none⟩)]], row (some ⟨pb, 0, none⟩) pc 31 1 (at_ + 1) (ls.flatMap eNL), rd (LLF ls), blk b3 56 [.int .i64 2, .slice qa 1 qc, .int .i64 (at_ : Int), .int .i64 ((at_ + 1 : Nat) : Int), .int .i64 1, .int .i64 1], blk b2 3 [.int .i64 ((at_ + 1 : Nat) : Int)], blk b1 40 [.slice na ns.length nc, .int .i64 ip, .slice sa ss.length sc]]) en_84 rfl rfl ?_ ?_
    · intro w hs
      have hle := sat_rowle hs .p2
      have h9 := counts2_c qa qc at_ m pb 0 pc ls ra rc (vrow F ns.length at_) w (hQ.later hs.below) ⟨hs.ownRo .p2, hs.read .p3⟩ hll (by omega) (by omega) hl0 hu
      exact h9.mono fun e w' h => ⟨(), h.1, hs.over h.2⟩
    intro _
    refine Ops.q (q_asg rfl) ?_
    refine Ops.q (q_asg rfl) ?_
    refine Ops.to rfl ?_
    refine Cd.rt (fn := Tryz.f12) [.int .i64 1, .int .i64 0] (by with_reducible repeat (first | exact rq_here | apply rq_then | apply rq_block)) rfl ⟨rfl, rfl, trivial⟩ ?_
    intro w' hs'
    exact ⟨rfl, hs'.none⟩
section
variable {na : Option Addr} {nc : Nat} {lz : List NL} {st : Int} {aa : Option Addr} {ac : Nat} {acc : List Bool} {wa : Option Addr} {wc : Nat} {ws : List Int} {k : Nat} {X : List (List Int)} {w : World}
theorem mach_q (hX : lz.map (fun l : NL => l.2) = X) (hA : AutOK X st acc ws k) (hL : RoLL w na lz) (hAc : RoL w aa eBool acc) : Calls Tryz.prog 8 [.agg [.slice na lz.length nc, .int .i64 st, .slice aa acc.length ac].toArray].toArray w fun e w' => ∃ x : (Option Addr × Nat) × (Option Addr × Nat), e = .returned (.tuple [.agg [.slice x.1.1 (autN X st acc k).ns.length x.1.2, .int .i64 (autN X st acc k).inp, .slice x.2.1 (autN X st acc k).ss.length x.2.2].toArray, .int .i64 0].toArray) ∧ Sat w w' [row x.1.1 x.1.2 62 8 (autN X st acc k).ns.length ((autN X st acc k).ns.flatMap ePrm), row x.2.1 x.2.2 109 4 (autN X st acc k).ss.length ((autN X st acc k).ss.flatMap eSyn)] := by
  have h := machine_c na nc lz st aa ac acc w hL hAc
  rw [hX, hA.machine_ok] at h
  exact h.mono fun e w' ⟨p, q, h1, h2⟩ => ⟨(p, q), h1, h2⟩
theorem word_q (hX : lz.map (fun l : NL => l.2) = X) (hA : AutOK X st acc ws k) (hl : ws.length ≤ 40) (hL : RoLL w na lz) (hW : RoL w wa eInt ws) : Calls Tryz.prog 9 [.agg [.slice na lz.length nc, .int .i64 st, .slice aa acc.length ac].toArray, .slice wa ws.length wc].toArray w fun e w' => ∃ x : Option Addr × Nat, e = .returned (.tuple [.slice x.1 (evA ws k).length x.2, .int .i64 0].toArray) ∧ Sat w w' [row x.1 x.2 70 2 (evA ws k).length ((evA ws k).flatMap eEvt)] := by
  have h := word_c na nc lz st aa acc.length ac wa wc ws w hL hW
  rw [hX, hA.word_ok hl] at h
  exact h.mono fun e w' ⟨p, h1, h2⟩ => ⟨p, h1, h2⟩
end
theorem evA_len (ws : List Int) (k : Nat) : (evA ws k).length = ws.length + 1 := by
  unfold evA
  rw [insI_len (by rw [evsW_len]; exact Nat.min_le_right _ _), evsW_len]
def accP (nx : List (List Int)) (st : Int) (acc : List Bool) (ws : List Int) : Bool := acc.getD (wantA nx st ws ws.length).toNat false
theorem autF_end (nx : List (List Int)) (st : Int) (acc : List Bool) (ws : List Int) (k : Nat) : autF nx st acc ws k (3 * ws.length + 2) (nx.length + nx.length * k) = accP nx st acc ws := by
  unfold autF accP
  rw [if_neg (by omega), if_neg (by omega), show (3 * ws.length + 2) / 3 = ws.length by omega]
  have h1 : (3 * ws.length + 2) % 3 = 2 := by omega
  simp [h1]
theorem decided_c (na : Option Addr) (nc : Nat) (lz : List NL) (st : Int) (aa : Option Addr) (ac : Nat) (acc : List Bool) (wa : Option Addr) (wc : Nat) (ws : List Int) (k : Nat) (X : List (List Int)) (w : World) (hX : lz.map (fun l : NL => l.2) = X) (hA : AutOK X st acc ws k) (hs8 : X.length ≤ 8) (hk4 : k ≤ 4) (hl : ws.length ≤ 40) (hL : RoLL w na lz) (hAc : RoL w aa eBool acc) (hW : RoL w wa eInt ws) : Calls Tryz.prog 6 [.agg [.slice na lz.length nc, .int .i64 st, .slice aa acc.length ac].toArray, .slice wa ws.length wc].toArray w fun e w' => e = .returned (.tuple [.int .i64 (cv (accP X st acc ws)), .int .i64 0].toArray) ∧ Sat w w' [] := by
  refine fstart Tryz.func6 rfl rfl (Sat.nil w) ?_
  refine Cd.seq ?_
  refine Cd.region ?_
  have hsk : X.length * k ≤ 8 * 4 := Nat.mul_le_mul hs8 hk4
  have hnn : (autN X st acc k).ns.length = X.length + X.length * k + 1 := AutOK.nlen
  refine Ops.box [.slice na lz.length nc, .int .i64 st, .slice aa acc.length ac] rfl rfl ?_
  intro b1
  refine Ops.q (q_asg rfl) ?_
  refine Ops.q (q_asg rfl) ?_
  refine Ops.to rfl ?_
  refine Cd.seq ?_
  refine Cd.region ?_
  refine Ops.q (q_ldBN [.slice na lz.length nc, .int .i64 st, .slice aa acc.length ac] isA_29 sz_29 rfl .here rfl) ?_
  refine Ops.cl (α := (Option Addr × Nat) × (Option Addr × Nat)) (v := fun x => .tuple [.agg [.slice x.1.1 (autN X st acc k).ns.length x.1.2, .int .i64 (autN X st acc k).inp, .slice x.2.1 (autN X st acc k).ss.length x.2.2].toArray, .int .i64 0].toArray) (B := fun x => [row x.1.1 x.1.2 62 8 (autN X st acc k).ns.length ((autN X st acc k).ns.flatMap ePrm), row x.2.1 x.2.2 109 4 (autN X st acc k).ss.length ((autN X st acc k).ss.flatMap eSyn)]) en_8 rfl (fun w hs => mach_q hX hA (hL.later hs.below) (hAc.later hs.below)) ?_
  rintro ⟨⟨pa, pc⟩, ⟨qa, qc⟩⟩
  refine Ops.q (q_mv rfl) ?_
  refine Ops.q (q_ext rfl rfl) ?_
  refine Ops.q (q_ext rfl rfl) ?_
  refine Ops.alc [.slice none 0 0, .int .i64 0, .slice none 0 0] zc_40 ?_
  intro b2
  refine Ops.stB [.slice pa ((autN X st acc k).ns.length) pc, .int .i64 ((autN X st acc k).inp), .slice qa ((autN X st acc k).ss.length) qc] [.slice pa ((autN X st acc k).ns.length) pc, .int .i64 ((autN X st acc k).inp), .slice qa ((autN X st acc k).ss.length) qc] sz_40 rfl rfl rfl (one rfl) .here rfl rfl ?_
  refine Ops.q (q_asg rfl) ?_
  refine Ops.to rfl ?_
  refine Cd.seq ?_
  refine Cd.seq ?_
  refine Cd.region ?_
  refine Ops.q (q_mv rfl) ?_
  refine Ops.q (q_cmp rfl rfl (c_nne (by decide))) ?_
  refine Ops.to rfl ?_
  refine Cd.cond_f rfl ?_
  refine Cd.skipTo rfl ?_
  refine Cd.seq ?_
  refine Cd.region ?_
  refine Ops.q (q_ldBN [.slice na lz.length nc, .int .i64 st, .slice aa acc.length ac] isA_29 sz_29 rfl .p3 rfl) ?_
  refine Ops.q (q_mv rfl) ?_
  refine Ops.cl (α := Option Addr × Nat) (v := fun x => .tuple [.slice x.1 (evA ws k).length x.2, .int .i64 0].toArray) (B := fun x => [row x.1 x.2 70 2 (evA ws k).length ((evA ws k).flatMap eEvt)]) en_9 rfl (fun w hs => word_q hX hA hl (hL.later hs.below) (hW.later hs.below)) ?_
  rintro ⟨ea, ec⟩
  refine Ops.rowpos .here (by rw [evA_len]; omega) ?_
  rintro eb h9
  dsimp only at h9
  subst h9
  refine Ops.q (q_mv rfl) ?_
  refine Ops.q (q_ext rfl rfl) ?_
  refine Ops.q (q_ext rfl rfl) ?_
  refine Ops.q (q_asg rfl) ?_
  refine Ops.q (q_asg rfl) ?_
  refine Ops.to rfl ?_
  refine Cd.seq ?_
  refine Cd.seq ?_
  refine Cd.region ?_
  refine Ops.q (q_mv rfl) ?_
  refine Ops.q (q_cmp rfl rfl (c_nne (by decide))) ?_
  refine Ops.to rfl ?_
  refine Cd.cond_f rfl ?_
  refine Cd.skipTo rfl ?_
  refine Cd.seq ?_
  refine Cd.region ?_
  refine Ops.q (q_mv rfl) ?_
  refine Ops.q (q_len esz_31 rfl) ?_
  refine Ops.q (q_ar (v := ((3 * ws.length : Nat) : Int)) rfl rfl (by rw [a_mul (by omega)]; congr 1)) ?_
  refine Ops.q (q_ar (v := ((3 * ws.length + 2 : Nat) : Int)) rfl rfl (by rw [a_add (by omega)]; congr 1)) ?_
  refine Ops.q (q_asg rfl) ?_
  refine Ops.to rfl ?_
  refine Cd.seq ?_
  refine Cd.region ?_
  refine Ops.q (q_fa fo_40_0 rfl) ?_
  refine Ops.q (q_ldB isA_37 rfl (.there .here) rfl) ?_
  refine Ops.q (q_len esz_37 rfl) ?_
  refine Ops.q (q_ar (v := ((X.length + X.length * k : Nat) : Int)) rfl rfl (by rw [a_sub (by omega)]; congr 1; omega)) ?_
  refine Ops.lit [.int .i64 ((X.length + X.length * k : Nat) : Int)] el_31 zsb_3 rfl rfl ⟨by decide, by decide⟩ rfl ?_
  intro b3
  refine Ops.q (q_mv rfl) ?_
  refine Ops.q (q_mv rfl) ?_
  refine Ops.q (q_ar rfl rfl (a_inc (by omega))) ?_
  refine Ops.q (q_bld [.int .i64 2, .slice (some ⟨b3, 0, none⟩) 1 1, .int .i64 ((3 * ws.length + 2 : Nat) : Int), .int .i64 ((3 * ws.length + 2 + 1 : Nat) : Int), .int .i64 1, .int .i64 1] pls_56 zc_56 rfl rfl) ?_
  refine Ops.alc [.int .i64 0, .slice none 0 0, .int .i64 0, .int .i64 0, .int .i64 0, .int .i64 0] zc_56 ?_
  intro b4
  refine Ops.stB [.int .i64 2, .slice (some ⟨b3, 0, none⟩) 1 1, .int .i64 ((3 * ws.length + 2 : Nat) : Int), .int .i64 ((3 * ws.length + 2 + 1 : Nat) : Int), .int .i64 1, .int .i64 1] [.int .i64 2, .slice (some ⟨b3, 0, none⟩) 1 1, .int .i64 ((3 * ws.length + 2 : Nat) : Int), .int .i64 ((3 * ws.length + 2 + 1 : Nat) : Int), .int .i64 1, .int .i64 1] sz_56 rfl rfl rfl (one rfl) .here rfl rfl ?_
  refine Ops.to rfl ?_
  refine Cd.seq ?_
  refine Cd.region ?_
  refine Ops.q (q_ldBN [.slice pa ((autN X st acc k).ns.length) pc, .int .i64 ((autN X st acc k).inp), .slice qa ((autN X st acc k).ss.length) qc] isA_40 sz_40 rfl .p3 rfl) ?_
  refine Ops.q (q_mv rfl) ?_
  refine Ops.q (q_mv rfl) ?_
  refine Ops.q (q_ar rfl rfl (a_inc (by omega))) ?_
  refine Ops.q (q_ldBN [.int .i64 2, .slice (some ⟨b3, 0, none⟩) 1 1, .int .i64 ((3 * ws.length + 2 : Nat) : Int), .int .i64 ((3 * ws.length + 2 + 1 : Nat) : Int), .int .i64 1, .int .i64 1] isA_56 sz_56 rfl .here rfl) ?_
  refine Ops.cp (v := .tuple [.int .i64 (cv (accP X st acc ws)), .int .i64 0].toArray) en_12 rfl ?_ ?_
  · intro w hs
    have hle := sat_rowle hs .p2
    have h9 := certain_c pa pc qa qc (autN X st acc k).ns (autN X st acc k).inp (autN X st acc k).ss (some ⟨eb, 0, none⟩) ec (evA ws k) (autF X st acc ws k) (idlA ws k) (autV X st acc ws k) (hN X.length k) (some ⟨b3, 0, none⟩) 1 (3 * ws.length + 2) (X.length + X.length * k) w (hs.ownRo .p4) (hs.ownRo .p5) (hs.ownRo .p2) hle (by rw [evA_len]; omega) (hA.bnd hs8 hk4 hl) (by omega) (by omega) (hs.ownRo (.there .here)) (by omega)
    rw [autF_end] at h9
    exact h9
  refine Ops.q (q_ext rfl rfl) ?_
  refine Ops.q (q_ext rfl rfl) ?_
  refine Ops.q (q_asg rfl) ?_
  refine Ops.q (q_asg rfl) ?_
  refine Ops.to rfl ?_
  refine Cd.rt (fn := Tryz.f6) [.int .i64 (cv (accP X st acc ws)), .int .i64 0] (by with_reducible repeat (first | exact rq_here | apply rq_then | apply rq_block)) rfl ⟨rfl, rfl, trivial⟩ ?_
  intro w' hs'
  exact ⟨rfl, hs'.none⟩
end Go.Proofs.YtilcdghliigngaaGreatDoor
namespace Go.Proofs.YtilcdghliigngaaGreatDoor
open Go.RowKit Go.Proofs.YtilcdghliigngaaGreatDoorGl Go.Proofs.YtilcdghliigngaaGreatDoorPm
set_option linter.unusedVariables false
set_option linter.unusedSimpArgs false
def eU8 (x : Int) : List Value := [.int .u8 x]
theorem eU8_len (x : Int) : (eU8 x).length = 1 := rfl
theorem a_remK {k : IntKind} {i j : Int} (hi : 0 ≤ i) (hj : j ≠ 0) : arV .rem k i j = some (i % j) := by simp only [arV, if_neg hj, Int.tmod_eq_emod_of_nonneg hi]
theorem a_mulN {s k : Nat} (h : s * k ≤ 1000000) : arV .mul .i64 (s : Int) (k : Int) = some ((s * k : Nat) : Int) := by
  rw [a_mul (by rw [← Int.natCast_mul]; omega), ← Int.natCast_mul]
theorem a_addN {s k : Nat} (h : s + k ≤ 1000000) : arV .add .i64 (s : Int) (k : Int) = some ((s + k : Nat) : Int) := by rw [a_add (by omega)]; rfl
def gmid (f : Nat → Int) (N i : Nat) : List Int := (List.range N).map fun d => if d < i then f d else 0
theorem gmid_len (f : Nat → Int) (N i : Nat) : (gmid f N i).length = N := by simp [gmid]
theorem gmid_zero (f : Nat → Int) (N : Nat) : rep N [Value.int .i64 0] = (gmid f N 0).flatMap eInt := by
  rw [rep_int]
  congr 1
  refine List.ext_getElem? fun d => ?_
  by_cases h : d < N
  · simp [gmid, h]
  · rw [List.getElem?_eq_none (by simp; omega), List.getElem?_eq_none (by rw [gmid_len]; omega)]
theorem gmid_set {f : Nat → Int} {N i : Nat} (h : i < N) {v : Int} (hv : v = f i) : (gmid f N i).set i v = gmid f N (i + 1) := by
  refine List.ext_getElem? fun j => ?_
  by_cases hj : j < N
  · by_cases e : i = j
    · subst e
      rw [List.getElem?_set_self (by rw [gmid_len]; exact h), hv]
      simp [gmid, h]
    · rw [List.getElem?_set_ne e]
      have e2 : (j < i) ↔ (j < i + 1) := by omega
      simp [gmid, hj, e2]
  · rw [List.getElem?_eq_none (by rw [List.length_set, gmid_len]; omega), List.getElem?_eq_none (by rw [gmid_len]; omega)]
theorem gmid_same {f : Nat → Int} {N i : Nat} (h : f i = 0) : gmid f N i = gmid f N (i + 1) := by
  refine List.map_congr_left fun j _ => ?_
  by_cases e : j = i
  · subst e; rw [if_neg (by omega), if_pos (by omega), h]
  · have e2 : (j < i) ↔ (j < i + 1) := by omega
    simp [e2]
theorem gmid_full (f : Nat → Int) (N : Nat) : gmid f N N = (List.range N).map f := by
  refine List.map_congr_left fun d hd => ?_
  rw [if_pos (List.mem_range.1 hd)]
def cellX (bs : List Int) (S K s c : Nat) : Int := if s * K + c < bs.length then bs.getD (s * K + c) 0 % (S : Int) else 0
def rowX (bs : List Int) (S K s : Nat) : List Int := (List.range K).map (cellX bs S K s)
def autX (bs : List Int) (S K : Nat) : List (List Int) := (List.range S).map (rowX bs S K)
def accX (m : Int) (s : Nat) : Bool := m.fdiv (2 ^ min s 64) % 2 == 1
def accL (m : Int) (S : Nat) : List Bool := (List.range S).map (accX m)
def wordX (cs : List Int) (K : Nat) : List Int := (cs.take 10).map fun x => x % (K : Int)
def AutF (pa aa : Option Addr) (ls : List NL) (acc : List Bool) (w : World) : Prop := RoLL w pa ls ∧ RoL w aa eBool acc
theorem lsx_next {bs : List Int} {S K s : Nat} {ls : List NL} {y : NL} (h : ls.map (fun l : NL => l.2) = (List.range s).map (rowX bs S K)) (hy : y.2 = rowX bs S K s) : (ls ++ [y]).map (fun l : NL => l.2) = (List.range (s + 1)).map (rowX bs S K) := by
  rw [rg_app, List.map_append, h, List.map_cons, List.map_nil, hy]
theorem lsg_fm (f : Nat → Int) (N : Nat) (ls : List NL) (a : Option Addr) (c : Nat) : ls.flatMap eNL ++ [.slice a N c] = (ls ++ [((a, c), (List.range N).map f)]).flatMap eNL := by
  rw [fm_app]; simp [eNL]
theorem lsx_fm (bs : List Int) (S K s : Nat) (ls : List NL) (a : Option Addr) (c : Nat) : ls.flatMap eNL ++ [.slice a K c] = (ls ++ [((a, c), rowX bs S K s)]).flatMap eNL := lsg_fm _ _ _ _ _
theorem accL_next (m : Int) (s : Nat) : (accL m s).flatMap eBool ++ [.bool (accX m s)] = (accL m (s + 1)).flatMap eBool := by
  unfold accL
  rw [rg_app, fm_app]; rfl
theorem auto_c (a b d m : Int) (ta wa : Option Addr) (tc wc : Nat) (bs cs5 : List Int) (S K : Nat) (w : World) (hS : (S : Int) = 1 + a % 4) (hK : (K : Int) = 1 + b % 3) (ha : 0 ≤ a ∧ a ≤ 255) (hb : 0 ≤ b ∧ b ≤ 255) (hd : 0 ≤ d ∧ d ≤ 255) (hm : 0 ≤ m) (hbs : ∀ x ∈ bs, 0 ≤ x ∧ x ≤ 255) (hT : RoL w ta eU8 bs) : Calls Tryz.prog 4 [.agg [.int .u8 a, .int .u8 b, .slice ta bs.length tc, .int .u8 d, .int .u64 m, .slice wa cs5.length wc].toArray].toArray w fun e w' => ∃ p : Option Addr × Nat × List NL × Option Addr × Nat, e = .returned (.agg [.slice p.1 S p.2.1, .int .i64 (d % (S : Int)), .slice p.2.2.2.1 S p.2.2.2.2].toArray) ∧ p.2.2.1.map (fun l : NL => l.2) = autX bs S K ∧ Sat w w' [rd (AutF p.1 p.2.2.2.1 p.2.2.1 (accL m S))] := by
  refine fstart Tryz.func4 rfl rfl (Sat.nil w) ?_
  refine Cd.seq ?_
  refine Cd.region ?_
  refine Ops.box [.int .u8 a, .int .u8 b, .slice ta bs.length tc, .int .u8 d, .int .u64 m, .slice wa cs5.length wc] rfl rfl ?_
  intro b1
  refine Ops.alc [.slice none 0 0, .int .i64 0, .slice none 0 0] zc_29 ?_
  intro b2
  refine Ops.to rfl ?_
  refine Cd.seq ?_
  refine Cd.draw rfl (by kernel_rfl) (.cons (.there .here) .nil) ?_
  intro F3 St4 hP5 hF6 hR7
  refine Dr.q (i := 0) hP5 rfl (by kernel_rfl) (q_fa fo_25_0 rfl) ?_
  refine Dr.q (i := 1) hP5 rfl (by kernel_rfl) (q_ldB isA_5 rfl .here rfl) ?_
  refine Dr.q (i := 2) hP5 rfl (by kernel_rfl) (q_ar (v := a % 4) rfl rfl (a_remK (by omega) (by omega))) ?_
  refine Dr.q (i := 3) hP5 rfl (by kernel_rfl) (q_conv iK_5 iK_3 rfl (IntWalk.i64_in _ (by omega))) ?_
  refine Dr.q (i := 4) hP5 rfl (by kernel_rfl) (q_ar (v := (S : Int)) rfl rfl (by rw [a_add (by omega)]; congr 1; omega)) ?_
  refine Dr.q (i := 5) hP5 rfl (by kernel_rfl) (q_fa fo_25_1 rfl) ?_
  refine Dr.q (i := 6) hP5 rfl (by kernel_rfl) (q_ldB isA_5 rfl .here rfl) ?_
  refine Dr.q (i := 7) hP5 rfl (by kernel_rfl) (q_ar (v := b % 3) rfl rfl (a_remK (by omega) (by omega))) ?_
  refine Dr.q (i := 8) hP5 rfl (by kernel_rfl) (q_conv iK_5 iK_3 rfl (IntWalk.i64_in _ (by omega))) ?_
  refine Dr.q (i := 9) hP5 rfl (by kernel_rfl) (q_ar (v := (K : Int)) rfl rfl (by rw [a_add (by omega)]; congr 1; omega)) ?_
  refine Dr.q (i := 10) hP5 rfl (by kernel_rfl) (q_asg rfl) ?_
  refine Dr.tail 11 (by kernel_rfl) ?_
  refine Ops.sat ?_ (fun _ hs => hR7 .here hs)
  refine Ops.q (q_asg rfl) ?_
  refine Ops.to rfl ?_
  refine Cd.seq ?_
  refine Cd.region ?_
  refine Ops.q (q_fa fo_25_3 rfl) ?_
  refine Ops.q (q_ldB isA_5 rfl .here rfl) ?_
  refine Ops.q (q_conv iK_5 iK_3 rfl (IntWalk.i64_in _ (by omega))) ?_
  refine Ops.q (q_mv rfl) ?_
  refine Ops.q (q_ar (v := d % (S : Int)) rfl rfl (a_remK (by omega) (by omega))) ?_
  refine Ops.q (q_bld [.slice none 0 0, .int .i64 (d % (S : Int)), .slice none 0 0] pls_29 zc_29 rfl rfl) ?_
  refine Ops.alc [.slice none 0 0, .int .i64 0, .slice none 0 0] zc_29 ?_
  intro b8
  refine Ops.stB [.slice none 0 0, .int .i64 (d % (S : Int)), .slice none 0 0] [.slice none 0 0, .int .i64 (d % (S : Int)), .slice none 0 0] sz_29 rfl rfl rfl (one rfl) .here rfl rfl ?_
  refine Ops.to rfl ?_
  refine Cd.seq ?_
  refine Cd.seq ?_
  refine Cd.region ?_
  refine Ops.q (q_asg rfl) ?_
  refine Ops.to rfl ?_
  refine Cd.block ?_
  refine Cd.lp (σ := Nat × Option Addr × Nat × List NL × Option Addr × Nat) (fun s => s.1 ≤ S ∧ s.2.2.2.1.map (fun l : NL => l.2) = (List.range s.1).map (rowX bs S K)) (fun s => [(1, .pointer (some ⟨b1, 0, none⟩)), (2, .pointer (some ⟨b2, 0, none⟩)), (3, .int .i64 (S : Int)), (4, .int .i64 (K : Int)), (5, .pointer (some ⟨b8, 0, none⟩)), (6, .int .i64 (s.1 : Int))]) (fun s => [rd (LLF s.2.2.2.1), row s.2.1 s.2.2.1 31 1 s.1 (s.2.2.2.1.flatMap eNL), row s.2.2.2.2.1 s.2.2.2.2.2 4 1 s.1 ((accL m s.1).flatMap eBool), blk b8 29 [.slice s.2.1 s.1 s.2.2.1, .int .i64 (d % (S : Int)), .slice s.2.2.2.2.1 s.1 s.2.2.2.2.2], blk b1 25 [.int .u8 a, .int .u8 b, .slice ta bs.length tc, .int .u8 d, .int .u64 m, .slice wa cs5.length wc], blk b2 29 [.slice none 0 0, .int .i64 0, .slice none 0 0]]) (fun s => S - s.1) (0, none, 0, [], none, 0) ⟨Nat.zero_le _, rfl⟩ ⟨rfl, rfl, rfl, rfl, rfl, rfl, trivial⟩ (fun _ hs => ((((((hs.pull .p2).pull .p2).pull .p2)).nilRow 4 1).nilRow 31 1 |> fun h => Sat.rd0 (φ := LLF []) h (fun w l hl => by cases hl))) ?_
  rintro ⟨u, pa, pc, ls, aa, ac⟩ hI
  dsimp only at hI
  change Cd _ _ _ _ _ _ _ [(1, .pointer (some ⟨b1, 0, none⟩)), (2, .pointer (some ⟨b2, 0, none⟩)), (3, .int .i64 (S : Int)), (4, .int .i64 (K : Int)), (5, .pointer (some ⟨b8, 0, none⟩)), (6, .int .i64 (u : Int))] ([rd (LLF ls), row pa pc 31 1 u (ls.flatMap eNL), row aa ac 4 1 u ((accL m u).flatMap eBool), blk b8 29 [.slice pa u pc, .int .i64 (d % (S : Int)), .slice aa u ac], blk b1 25 [.int .u8 a, .int .u8 b, .slice ta bs.length tc, .int .u8 d, .int .u64 m, .slice wa cs5.length wc], blk b2 29 [.slice none 0 0, .int .i64 0, .slice none 0 0]])
  obtain ⟨hI1, hI2⟩ := hI
  have hsk : u * K ≤ 4 * 3 := Nat.mul_le_mul (by omega) (by omega)
  refine Cd.seq ?_
  refine Cd.seq ?_
  refine Cd.region ?_
  refine Ops.q (q_mv rfl) ?_
  refine Ops.q (q_mv rfl) ?_
  by_cases hs0 : (u : Int) < (S : Int)
  · refine Ops.q (q_cmp rfl rfl (c_lt hs0)) ?_
    refine Ops.to rfl ?_
    refine Cd.cond_t rfl ?_
    refine Cd.skipTo rfl ?_
    refine Cd.seq ?_
    refine Cd.block ?_
    refine Cd.seq ?_
    refine Cd.region ?_
    refine Ops.q (q_mv rfl) ?_
    refine Ops.mks (m := K) el_31 zsb_3 rfl rfl (by omega) (by omega) ?_
    intro b9
    refine Ops.q (q_asg rfl) ?_
    refine Ops.to rfl ?_
    refine Cd.seq ?_
    refine Cd.seq ?_
    refine Cd.region ?_
    refine Ops.q (q_asg rfl) ?_
    refine Ops.to rfl ?_
    refine Cd.block ?_
    refine Cd.lp (σ := Nat) (fun c => c ≤ K) (fun c => [(1, .pointer (some ⟨b1, 0, none⟩)), (2, .pointer (some ⟨b2, 0, none⟩)), (3, .int .i64 (S : Int)), (4, .int .i64 (K : Int)), (5, .pointer (some ⟨b8, 0, none⟩)), (6, .int .i64 (u : Int)), (7, .slice (some ⟨b9, 0, none⟩) K K), (8, .int .i64 (c : Int))]) (fun c => [row (some ⟨b9, 0, none⟩) K 3 1 K ((gmid (cellX bs S K u) K c).flatMap eInt), rd (LLF ls), row pa pc 31 1 u (ls.flatMap eNL), row aa ac 4 1 u ((accL m u).flatMap eBool), blk b8 29 [.slice pa u pc, .int .i64 (d % (S : Int)), .slice aa u ac], blk b1 25 [.int .u8 a, .int .u8 b, .slice ta bs.length tc, .int .u8 d, .int .u64 m, .slice wa cs5.length wc], blk b2 29 [.slice none 0 0, .int .i64 0, .slice none 0 0]]) (fun c => K - c) 0 (Nat.zero_le _) ⟨rfl, rfl, rfl, rfl, rfl, rfl, rfl, rfl, trivial⟩ (fun _ hs => by rw [gmid_zero (cellX bs S K u) K] at hs; exact (((((((hs.pull .p6).pull .p6).pull .p6).pull .p6).pull .p6).pull .p6).pull .p6)) ?_
    intro c hI
    refine Cd.seq ?_
    refine Cd.seq ?_
    refine Cd.region ?_
    refine Ops.q (q_mv rfl) ?_
    refine Ops.q (q_mv rfl) ?_
    by_cases hc0 : (c : Int) < (K : Int)
    · refine Ops.q (q_cmp rfl rfl (c_lt hc0)) ?_
      have hc : c < K := by omega
      have hgl := gmid_len (cellX bs S K u) K c
      refine Ops.to rfl ?_
      refine Cd.cond_t rfl ?_
      refine Cd.skipTo rfl ?_
      refine Cd.seq ?_
      refine Cd.block ?_
      refine Cd.seq ?_
      refine Cd.region ?_
      refine Ops.q (q_mv rfl) ?_
      refine Ops.q (q_mv rfl) ?_
      refine Ops.q (q_ar (v := ((u * K : Nat) : Int)) rfl rfl (a_mulN (by omega))) ?_
      refine Ops.q (q_mv rfl) ?_
      refine Ops.q (q_ar (v := ((u * K + c : Nat) : Int)) rfl rfl (a_addN (by omega))) ?_
      refine Ops.q (q_fa fo_25_2 rfl) ?_
      refine Ops.q (q_ldB isA_22 rfl .p5 rfl) ?_
      refine Ops.q (q_len esz_22 rfl) ?_
      by_cases hlt0 : ((u * K + c : Nat) : Int) < (bs.length : Int)
      · refine Ops.q (q_cmp rfl rfl (c_lt hlt0)) ?_
        have hlt : u * K + c < bs.length := by omega
        obtain ⟨x10, hx11⟩ : ∃ x, bs[u * K + c]? = some x := ⟨_, List.getElem?_eq_getElem (by omega)⟩
        obtain ⟨ab12, ao13, rfl⟩ := RoL.pos hT eU8_len hx11
        have hxb := hbs x10 (List.mem_iff_getElem?.2 ⟨_, hx11⟩)
        refine Ops.to rfl ?_
        refine Cd.cond_t rfl ?_
        refine Cd.region ?_
        refine Ops.q (q_mv rfl) ?_
        refine Ops.q (q_mv rfl) ?_
        refine Ops.q (q_fa fo_25_2 rfl) ?_
        refine Ops.q (q_ldB isA_22 rfl .p5 rfl) ?_
        refine Ops.q (q_mv rfl) ?_
        refine Ops.q (q_mv rfl) ?_
        refine Ops.q (q_ar (v := ((u * K : Nat) : Int)) rfl rfl (a_mulN (by omega))) ?_
        refine Ops.q (q_mv rfl) ?_
        refine Ops.q (q_ar (v := ((u * K + c : Nat) : Int)) rfl rfl (a_addN (by omega))) ?_
        refine Ops.q (q_ix (k := (u * K + c)) esz_22 rfl rfl (by omega)) ?_
        refine Ops.q (q_ldR isA_5 rfl (hT.at0 eU8_len hx11 rfl)) ?_
        refine Ops.q (q_conv iK_5 iK_3 rfl (IntWalk.i64_in _ (by omega))) ?_
        refine Ops.q (q_mv rfl) ?_
        refine Ops.q (q_ar (v := x10 % (S : Int)) rfl rfl (a_remK (by omega) (by omega))) ?_
        refine Ops.q (q_ix (k := c) esz_31 rfl rfl (by omega)) ?_
        refine Ops.stO [.int .i64 (x10 % (S : Int))] (((gmid (cellX bs S K u) K c).set c (x10 % (S : Int))).flatMap eInt) sz_3 rfl rfl rfl (one rfl) .here (by rw [fm_length eInt_len]; simp only [List.length_cons, List.length_nil]; omega) (fm_set eInt_len (gmid (cellX bs S K u) K c) c (x10 % (S : Int)) (by omega)) ?_
        refine Ops.to rfl ?_
        refine Cd.region ?_
        refine Ops.q (q_mv rfl) ?_
        refine Ops.q (q_ar rfl rfl (a_inc (by omega))) ?_
        refine Ops.q (q_asg rfl) ?_
        refine Ops.rnd (c + 1) rfl (by omega) (by omega) ⟨rfl, rfl, rfl, rfl, rfl, rfl, rfl, rfl, trivial⟩ (fun _ hs => by rw [gmid_set hc (by unfold cellX; rw [if_pos hlt, getD_at hx11])] at hs; exact (((((((hs.pull .p6).pull .p6).pull .p6).pull .p6).pull .p6).pull .p6).pull .p6)) 
      · refine Ops.q (q_cmp rfl rfl (c_nlt (by omega))) ?_
        have hlt : ¬ u * K + c < bs.length := by omega
        refine Ops.to rfl ?_
        refine Cd.cond_f rfl ?_
        refine Cd.skipTo rfl ?_
        refine Cd.region ?_
        refine Ops.q (q_mv rfl) ?_
        refine Ops.q (q_ar rfl rfl (a_inc (by omega))) ?_
        refine Ops.q (q_asg rfl) ?_
        refine Ops.rnd (c + 1) rfl (by omega) (by omega) ⟨rfl, rfl, rfl, rfl, rfl, rfl, rfl, rfl, trivial⟩ (fun _ hs => by rw [gmid_same (by unfold cellX; rw [if_neg hlt])] at hs; exact (((((((hs.pull .p6).pull .p6).pull .p6).pull .p6).pull .p6).pull .p6).pull .p6)) 
    · refine Ops.q (q_cmp rfl rfl (c_nlt (by omega))) ?_
      have hcK : c = K := by omega
      rw [hcK]
      refine Ops.to rfl ?_
      refine Cd.cond_f rfl ?_
      refine Cd.exitTo rfl ?_
      refine Cd.seq ?_
      refine Cd.region ?_
      refine Ops.q (q_fa fo_29_0 rfl) ?_
      refine Ops.q (q_ldB isA_26 rfl .p4 rfl) ?_
      refine Ops.q (q_mv rfl) ?_
      refine Ops.lit [.slice (some ⟨b9, 0, none⟩) K K] el_26 zsb_31 rfl rfl ⟨by decide, by decide⟩ rfl ?_
      intro b14
      refine Ops.app (news := [.slice (some ⟨b9, 0, none⟩) K K]) el_26 zsb_31 (by decide) rfl rfl (fun _ hs => hs.ownRo .here) (fun _ hs => (hs.pull .here).drop) (fun _ _ => .p2) rfl (one rfl) (by omega) (by omega) ?_
      intro a15 c16
      refine Ops.q (q_fa fo_29_0 rfl) ?_
      refine Ops.stB [.slice a15 (u + 1) c16] [.slice a15 (u + 1) c16, .int .i64 (d % (S : Int)), .slice aa u ac] sz_26 rfl rfl rfl (one rfl) .p4 rfl rfl ?_
      refine Ops.to rfl ?_
      refine Cd.draw rfl (by kernel_rfl) (.cons .p4 (.cons .p4 .nil)) ?_
      intro F17 St18 hP19 hF20 hR21
      refine Dr.q (i := 0) hP19 rfl (by kernel_rfl) (q_fa fo_29_2 rfl) ?_
      refine Dr.q (i := 1) hP19 rfl (by kernel_rfl) (q_ldB isA_27 rfl .here rfl) ?_
      refine Dr.q (i := 2) hP19 rfl (by kernel_rfl) (q_fa fo_25_4 rfl) ?_
      refine Dr.q (i := 3) hP19 rfl (by kernel_rfl) (q_ldB isA_23 rfl (.there .here) rfl) ?_
      refine Dr.q (i := 4) hP19 rfl (by kernel_rfl) (q_mv rfl) ?_
      refine Dr.q (i := 5) hP19 rfl (by kernel_rfl) (q_shr (j := u) rfl rfl rfl) ?_
      refine Dr.q (i := 6) hP19 rfl (by kernel_rfl) (q_ar (v := m.fdiv (2 ^ min u 64) % 2) rfl rfl (a_remK (Int.fdiv_nonneg (by omega) (Int.pow_nonneg (by decide))) (by decide))) ?_
      refine Dr.q (i := 7) hP19 rfl (by kernel_rfl) (q_cmp rfl rfl rfl) ?_
      refine Dr.e (i := 8) rfl (by kernel_rfl) ?_
      refine Ops.lit [.bool (m.fdiv (2 ^ min u 64) % 2 == 1)] el_27 zsb_4 rfl rfl ⟨by decide, by decide⟩ rfl ?_
      intro b22
      refine Dr.back (fun _ hs => hF20 (.there .here) hs) ?_
      refine Dr.e (i := 9) rfl (by kernel_rfl) ?_
      refine Ops.app (news := [.bool (m.fdiv (2 ^ min u 64) % 2 == 1)]) el_27 zsb_4 (by decide) rfl rfl (fun _ hs => hs.ownRo .here) (fun _ hs => (hs.pull .here).drop) (fun _ _ => .p4) rfl (one rfl) (by omega) (by omega) ?_
      intro a23 c24
      refine Dr.back (fun _ hs => hF20 .here hs) ?_
      refine Dr.tail 10 (by kernel_rfl) ?_
      refine Ops.sat ?_ (fun _ hs => hR21 .here hs)
      refine Ops.q (q_fa fo_29_2 rfl) ?_
      refine Ops.stB [.slice a23 (u + 1) c24] [.slice a15 (u + 1) c16, .int .i64 (d % (S : Int)), .slice a23 (u + 1) c24] sz_27 rfl rfl rfl (one rfl) .here rfl rfl ?_
      refine Ops.to rfl ?_
      refine Cd.region ?_
      refine Ops.q (q_mv rfl) ?_
      refine Ops.q (q_ar rfl rfl (a_inc (by omega))) ?_
      refine Ops.q (q_asg rfl) ?_
      refine Ops.rnd ((u + 1, a15, c16, ls ++ [((some ⟨b9, 0, none⟩, K), rowX bs S K u)], a23, c24)) rfl (by dsimp only; exact (⟨by omega, lsx_next hI2 rfl⟩)) (by dsimp only; omega) ⟨rfl, rfl, rfl, rfl, rfl, rfl, trivial⟩ (fun _ hs => by rw [gmid_full, show (List.range K).map (cellX bs S K u) = rowX bs S K u from rfl] at hs; have h1 := Sat.merge (ψ := LLF (ls ++ [((some ⟨b9, 0, none⟩, K), rowX bs S K u)])) ((((((((hs.pull .p6).pull .p2).pull .p2).pull .p6).pull .p6).pull .p6).pull .p6)) (fun w S h1 h2 => LLF.next h2 (ro_of_rowP h1)); rw [lsx_fm bs S K u ls _ _, show (m.fdiv (2 ^ min u 64) % 2 == 1) = accX m u from rfl, accL_next m u] at h1; exact h1) 
  · refine Ops.q (q_cmp rfl rfl (c_nlt (by omega))) ?_
    have huS : u = S := by omega
    rw [huS]
    rw [huS] at hI2
    refine Ops.to rfl ?_
    refine Cd.cond_f rfl ?_
    refine Cd.exitTo rfl ?_
    refine Cd.seq ?_
    refine Cd.region ?_
    refine Ops.q (q_ldBN [.slice pa S pc, .int .i64 (d % (S : Int)), .slice aa S ac] isA_29 sz_29 rfl .p3 rfl) ?_
    refine Ops.stB [.slice pa S pc, .int .i64 (d % (S : Int)), .slice aa S ac] [.slice pa S pc, .int .i64 (d % (S : Int)), .slice aa S ac] sz_29 rfl rfl rfl (one rfl) .p5 rfl rfl ?_
    refine Ops.to rfl ?_
    refine Cd.rt (fn := Tryz.f4) [.agg [.slice pa S pc, .int .i64 (d % (S : Int)), .slice aa S ac].toArray] (by with_reducible repeat (first | exact rq_here | apply rq_then | apply rq_block)) rfl ⟨⟨_, _, rfl, fun _ hs => run_loadN isA_29 sz_29 (fun o u hu => Sat.atB .p5 (by rw [Nat.zero_add]; exact hu) hs)⟩, trivial⟩ ?_
    intro w' hs'
    have h1 := Sat.merge (ψ := fun w => RoLL w pa ls) (((((((hs'.pull .p2).pull (.there .here)).pull .p2).pull .p3).drop.pull .p3).drop.pull .p3).drop) (fun w S h1 h2 => ⟨ro_of_rowP h1, h2⟩)
    have h2 := Sat.merge (ψ := AutF pa aa ls (accL m S)) (h1.pull (.there .here)) (fun w S h1 h2 => ⟨h2, ro_of_rowP h1⟩)
    exact ⟨(pa, pc, ls, aa, ac), rfl, hI2, h2⟩
end Go.Proofs.YtilcdghliigngaaGreatDoor
namespace Go.Proofs.YtilcdghliigngaaGreatDoor
open Go.RowKit Go.Proofs.YtilcdghliigngaaGreatDoorGl Go.Proofs.YtilcdghliigngaaGreatDoorPm
set_option linter.unusedVariables false
set_option linter.unusedSimpArgs false
theorem tword_c (a b d m : Int) (ta wa : Option Addr) (bl tc wc : Nat) (cs5 : List Int) (K : Nat) (w : World) (hK : (K : Int) = 1 + b % 3) (hb : 0 ≤ b ∧ b ≤ 255) (hbs : ∀ x ∈ cs5, 0 ≤ x ∧ x ≤ 255) (hT : RoL w wa eU8 cs5) : Calls Tryz.prog 5 [.agg [.int .u8 a, .int .u8 b, .slice ta bl tc, .int .u8 d, .int .u64 m, .slice wa cs5.length wc].toArray].toArray w fun e w' => ∃ p : Option Addr × Nat, e = .returned (.slice p.1 (wordX cs5 K).length p.2) ∧ Sat w w' [row p.1 p.2 3 1 (wordX cs5 K).length ((wordX cs5 K).flatMap eInt)] := by
  refine fstart Tryz.func5 rfl rfl (Sat.nil w) ?_
  refine Cd.seq ?_
  refine Cd.region ?_
  refine Ops.box [.int .u8 a, .int .u8 b, .slice ta bl tc, .int .u8 d, .int .u64 m, .slice wa cs5.length wc] rfl rfl ?_
  intro b1
  refine Ops.q (q_asg rfl) ?_
  refine Ops.to rfl ?_
  refine Cd.seq ?_
  refine Cd.region ?_
  refine Ops.q (q_asg rfl) ?_
  refine Ops.to rfl ?_
  refine Cd.seq ?_
  refine Cd.seq ?_
  refine Cd.region ?_
  refine Ops.q (q_asg rfl) ?_
  refine Ops.to rfl ?_
  refine Cd.block ?_
  refine Cd.lp (σ := Nat × Option Addr × Nat) (fun s => s.1 ≤ cs5.length ∧ s.1 ≤ 10) (fun s => [(1, .pointer (some ⟨b1, 0, none⟩)), (2, .slice none 0 0), (3, .slice s.2.1 s.1 s.2.2), (4, .int .i64 (s.1 : Int))]) (fun s => [row s.2.1 s.2.2 3 1 s.1 (((cs5.take s.1).map fun x => x % (K : Int)).flatMap eInt), blk b1 25 [.int .u8 a, .int .u8 b, .slice ta bl tc, .int .u8 d, .int .u64 m, .slice wa cs5.length wc]]) (fun s => 10 - s.1) (0, none, 0) ⟨Nat.zero_le _, by decide⟩ ⟨rfl, rfl, rfl, rfl, trivial⟩ (fun _ hs => ((hs.pull .here)).nilRow 3 1) ?_
  rintro ⟨i, pa, pc⟩ hI
  dsimp only at hI
  change Cd _ _ _ _ _ _ _ [(1, .pointer (some ⟨b1, 0, none⟩)), (2, .slice none 0 0), (3, .slice pa i pc), (4, .int .i64 (i : Int))] ([row pa pc 3 1 i (((cs5.take i).map fun x => x % (K : Int)).flatMap eInt), blk b1 25 [.int .u8 a, .int .u8 b, .slice ta bl tc, .int .u8 d, .int .u64 m, .slice wa cs5.length wc]])
  obtain ⟨hI1, hI2⟩ := hI
  refine Cd.seq ?_
  refine Cd.seq ?_
  refine Cd.region ?_
  refine Ops.q (q_mv rfl) ?_
  refine Ops.q (q_fa fo_25_5 rfl) ?_
  refine Ops.q (q_ldB isA_22 rfl (.there .here) rfl) ?_
  refine Ops.q (q_len esz_22 rfl) ?_
  by_cases h1 : (i : Int) < (cs5.length : Int)
  · refine Ops.q (q_cmp rfl rfl (c_lt h1)) ?_
    refine Ops.q (q_mv rfl) ?_
    refine Ops.q (q_mv rfl) ?_
    by_cases h2 : (i : Int) < 10
    · refine Ops.q (q_cmp rfl rfl (c_lt h2)) ?_
      have hlt : i < cs5.length := by omega
      obtain ⟨x2, hx3⟩ : ∃ x, cs5[i]? = some x := ⟨_, List.getElem?_eq_getElem (by omega)⟩
      obtain ⟨ab4, ao5, rfl⟩ := RoL.pos hT eU8_len hx3
      have hxb := hbs x2 (List.mem_iff_getElem?.2 ⟨_, hx3⟩)
      refine Ops.q (q_pickT rfl rfl) ?_
      refine Ops.to rfl ?_
      refine Cd.cond_t rfl ?_
      refine Cd.skipTo rfl ?_
      refine Cd.seq ?_
      refine Cd.block ?_
      refine Cd.draw rfl (by kernel_rfl) (.cons (.there .here) .nil) ?_
      intro F6 St7 hP8 hF9 hR10
      refine Dr.q (i := 0) hP8 rfl (by kernel_rfl) (q_mv rfl) ?_
      refine Dr.q (i := 1) hP8 rfl (by kernel_rfl) (q_fa fo_25_5 rfl) ?_
      refine Dr.q (i := 2) hP8 rfl (by kernel_rfl) (q_ldB isA_22 rfl .here rfl) ?_
      refine Dr.q (i := 3) hP8 rfl (by kernel_rfl) (q_mv rfl) ?_
      refine Dr.q (i := 4) hP8 rfl (by kernel_rfl) (q_ix (k := i) esz_22 rfl rfl (by omega)) ?_
      refine Dr.q (i := 5) hP8 rfl (by kernel_rfl) (q_ldR isA_5 rfl (hT.at0 eU8_len hx3 rfl)) ?_
      refine Dr.q (i := 6) hP8 rfl (by kernel_rfl) (q_conv iK_5 iK_3 rfl (IntWalk.i64_in _ (by omega))) ?_
      refine Dr.q (i := 7) hP8 rfl (by kernel_rfl) (q_fa fo_25_1 rfl) ?_
      refine Dr.q (i := 8) hP8 rfl (by kernel_rfl) (q_ldB isA_5 rfl .here rfl) ?_
      refine Dr.q (i := 9) hP8 rfl (by kernel_rfl) (q_ar (v := b % 3) rfl rfl (a_remK (by omega) (by omega))) ?_
      refine Dr.q (i := 10) hP8 rfl (by kernel_rfl) (q_conv iK_5 iK_3 rfl (IntWalk.i64_in _ (by omega))) ?_
      refine Dr.q (i := 11) hP8 rfl (by kernel_rfl) (q_ar (v := (K : Int)) rfl rfl (by rw [a_add (by omega)]; congr 1; omega)) ?_
      refine Dr.q (i := 12) hP8 rfl (by kernel_rfl) (q_ar (v := x2 % (K : Int)) rfl rfl (a_remK (by omega) (by omega))) ?_
      refine Dr.e (i := 13) rfl (by kernel_rfl) ?_
      refine Ops.lit [.int .i64 (x2 % (K : Int))] el_31 zsb_3 rfl rfl ⟨by decide, by decide⟩ rfl ?_
      intro b11
      refine Dr.back (fun _ hs => hF9 (.there .here) hs) ?_
      refine Dr.e (i := 14) rfl (by kernel_rfl) ?_
      refine Ops.app (news := [.int .i64 (x2 % (K : Int))]) el_31 zsb_3 (by decide) rfl rfl (fun _ hs => hs.ownRo .here) (fun _ hs => (hs.pull .here).drop) (fun _ _ => (.there .here)) rfl (one rfl) (by omega) (by omega) ?_
      intro a12 c13
      refine Dr.back (fun _ hs => hF9 .here hs) ?_
      refine Dr.tail 15 (by kernel_rfl) ?_
      refine Ops.sat ?_ (fun _ hs => hR10 .here hs)
      refine Ops.q (q_asg rfl) ?_
      refine Ops.to rfl ?_
      refine Cd.region ?_
      refine Ops.q (q_mv rfl) ?_
      refine Ops.q (q_ar rfl rfl (a_inc (by omega))) ?_
      refine Ops.q (q_asg rfl) ?_
      refine Ops.rnd ((i + 1, a12, c13)) rfl (by dsimp only; exact (⟨by omega, by omega⟩)) (by dsimp only; omega) ⟨rfl, rfl, rfl, rfl, trivial⟩ (fun _ hs => by rw [take_get hx3, List.map_append, fm_app]; exact ((hs.pull .here).pull (.there .here))) 
    · refine Ops.q (q_cmp rfl rfl (c_nlt (by omega))) ?_
      refine Ops.q (q_pickT rfl rfl) ?_
      refine Ops.to rfl ?_
      refine Cd.cond_f rfl ?_
      refine Cd.exitTo rfl ?_
      refine Cd.seq ?_
      refine Cd.region ?_
      refine Ops.q (q_mv rfl) ?_
      refine Ops.q (q_asg rfl) ?_
      refine Ops.to rfl ?_
      refine Cd.rt (fn := Tryz.f5) [.slice pa i pc] (by with_reducible repeat (first | exact rq_here | apply rq_then | apply rq_block)) rfl ⟨rfl, trivial⟩ ?_
      intro w' hs'
      have e1 : cs5.take i = cs5.take 10 := by (first | rw [show i = 10 by omega] | rw [List.take_of_length_le (show cs5.length ≤ i by omega), List.take_of_length_le (show cs5.length ≤ 10 by omega)])
      have e2 : (wordX cs5 K).length = i := by unfold wordX; rw [← e1, List.length_map, List.length_take]; omega
      exact ⟨(pa, pc), by rw [e2]; rfl, by rw [e2]; unfold wordX; rw [← e1]; exact ((hs'.pull .here).pull (.there .here)).drop⟩
  · refine Ops.q (q_cmp rfl rfl (c_nlt (by omega))) ?_
    refine Ops.q (q_mv rfl) ?_
    refine Ops.sk ?_
    refine Ops.sk ?_
    refine Ops.q (q_pickF rfl rfl) ?_
    refine Ops.to rfl ?_
    refine Cd.cond_f rfl ?_
    refine Cd.exitTo rfl ?_
    refine Cd.seq ?_
    refine Cd.region ?_
    refine Ops.q (q_mv rfl) ?_
    refine Ops.q (q_asg rfl) ?_
    refine Ops.to rfl ?_
    refine Cd.rt (fn := Tryz.f5) [.slice pa i pc] (by with_reducible repeat (first | exact rq_here | apply rq_then | apply rq_block)) rfl ⟨rfl, trivial⟩ ?_
    intro w' hs'
    have e1 : cs5.take i = cs5.take 10 := by (first | rw [show i = 10 by omega] | rw [List.take_of_length_le (show cs5.length ≤ i by omega), List.take_of_length_le (show cs5.length ≤ 10 by omega)])
    have e2 : (wordX cs5 K).length = i := by unfold wordX; rw [← e1, List.length_map, List.length_take]; omega
    exact ⟨(pa, pc), by rw [e2]; rfl, by rw [e2]; unfold wordX; rw [← e1]; exact ((hs'.pull .here).pull (.there .here)).drop⟩
def wlL (nx : List (List Int)) (st : Int) (ws : List Int) (n : Nat) : List Int := (List.range n).map fun j => ((wN nx st ws j : Nat) : Int)
theorem wlL_next (nx : List (List Int)) (st : Int) (ws : List Int) (n : Nat) : (wlL nx st ws (n + 1)).flatMap eInt = (wlL nx st ws n).flatMap eInt ++ [.int .i64 ((wN nx st ws n : Nat) : Int)] := by
  unfold wlL
  rw [rg_app, fm_app]; rfl
theorem AutOK.ws_get {nx : List (List Int)} {st : Int} {acc : List Bool} {ws : List Int} {k : Nat} (h : AutOK nx st acc ws k) {i : Nat} (hi : i < ws.length) : ∃ u : Nat, ws[i]? = some (u : Int) ∧ u < k := by
  have h1 := h.ws ws[i] (List.getElem_mem hi)
  exact ⟨ws[i].toNat, by rw [List.getElem?_eq_getElem hi]; congr 1; omega, by omega⟩
theorem lz_get {lz : List NL} {X : List (List Int)} (h : lz.map (fun l : NL => l.2) = X) {i : Nat} (hi : i < X.length) : ∃ ra rc r, lz[i]? = some ((ra, rc), r) ∧ X[i]? = some r := by
  subst h
  rw [List.length_map] at hi
  refine ⟨lz[i].1.1, lz[i].1.2, lz[i].2, List.getElem?_eq_getElem hi, ?_⟩
  rw [List.getElem?_map, List.getElem?_eq_getElem hi]; rfl
theorem reached_c (na : Option Addr) (nc : Nat) (lz : List NL) (st : Int) (aa : Option Addr) (ac : Nat) (acc : List Bool) (wa : Option Addr) (wc : Nat) (ws : List Int) (k : Nat) (X : List (List Int)) (w : World) (hX : lz.map (fun l : NL => l.2) = X) (hA : AutOK X st acc ws k) (hl : ws.length ≤ 40) (hL : RoLL w na lz) (hW : RoL w wa eInt ws) : Calls Tryz.prog 7 [.agg [.slice na lz.length nc, .int .i64 st, .slice aa acc.length ac].toArray, .slice wa ws.length wc].toArray w fun e w' => ∃ p : Option Addr × Nat, e = .returned (.slice p.1 (ws.length + 1) p.2) ∧ Sat w w' [row p.1 p.2 3 1 (ws.length + 1) ((wlL X st ws (ws.length + 1)).flatMap eInt)] := by
  refine fstart Tryz.func7 rfl rfl (Sat.nil w) ?_
  refine Cd.seq ?_
  refine Cd.region ?_
  have hw0 : ((wN X st ws 0 : Nat) : Int) = st := hA.wN_eq 0
  refine Ops.box [.slice na lz.length nc, .int .i64 st, .slice aa acc.length ac] rfl rfl ?_
  intro b1
  refine Ops.q (q_asg rfl) ?_
  refine Ops.to rfl ?_
  refine Cd.seq ?_
  refine Cd.region ?_
  refine Ops.q (q_fa fo_29_1 rfl) ?_
  refine Ops.q (q_ldB isA_3 rfl .here rfl) ?_
  refine Ops.lit [.int .i64 st] el_31 zsb_3 rfl rfl ⟨by decide, by decide⟩ rfl ?_
  intro b2
  refine Ops.q (q_asg rfl) ?_
  refine Ops.to rfl ?_
  refine Cd.seq ?_
  refine Cd.region ?_
  refine Ops.q (q_fa fo_29_1 rfl) ?_
  refine Ops.q (q_ldB isA_3 rfl (.there .here) rfl) ?_
  refine Ops.q (q_asg rfl) ?_
  refine Ops.to rfl ?_
  refine Cd.seq ?_
  refine Cd.seq ?_
  refine Cd.region ?_
  refine Ops.q (q_asg rfl) ?_
  refine Ops.to rfl ?_
  refine Cd.block ?_
  refine Cd.lp (σ := Nat × Option Addr × Nat) (fun s => s.1 ≤ ws.length) (fun s => [(1, .slice wa ws.length wc), (2, .pointer (some ⟨b1, 0, none⟩)), (4, .slice none 0 0), (5, .slice s.2.1 (s.1 + 1) s.2.2), (6, .int .i64 ((wN X st ws s.1 : Nat) : Int)), (7, .int .i64 (s.1 : Int))]) (fun s => [row s.2.1 s.2.2 3 1 (s.1 + 1) ((wlL X st ws (s.1 + 1)).flatMap eInt), blk b1 29 [.slice na lz.length nc, .int .i64 st, .slice aa acc.length ac]]) (fun s => ws.length - s.1) (0, some ⟨b2, 0, none⟩, 1) (Nat.zero_le _) ⟨rfl, rfl, rfl, rfl, (by dsimp only; rw [hw0]; rfl), rfl, trivial⟩ (fun _ hs => by rw [wlL_next, show ((wN X st ws 0 : Nat) : Int) = st from hw0]; exact ((hs.pull (.there .here)).pull (.there .here))) ?_
  rintro ⟨i, pa, pc⟩ hI
  dsimp only at hI
  change Cd _ _ _ _ _ _ _ [(1, .slice wa ws.length wc), (2, .pointer (some ⟨b1, 0, none⟩)), (4, .slice none 0 0), (5, .slice pa (i + 1) pc), (6, .int .i64 ((wN X st ws i : Nat) : Int)), (7, .int .i64 (i : Int))] ([row pa pc 3 1 (i + 1) ((wlL X st ws (i + 1)).flatMap eInt), blk b1 29 [.slice na lz.length nc, .int .i64 st, .slice aa acc.length ac]])
  refine Cd.seq ?_
  refine Cd.seq ?_
  refine Cd.region ?_
  refine Ops.q (q_mv rfl) ?_
  refine Ops.q (q_mv rfl) ?_
  refine Ops.q (q_len esz_31 rfl) ?_
  by_cases h1 : (i : Int) < (ws.length : Int)
  · refine Ops.q (q_cmp rfl rfl (c_lt h1)) ?_
    have hi : i < ws.length := by omega
    obtain ⟨u, hu, huk⟩ := hA.ws_get hi
    obtain ⟨ra, rc, r, hl0, hr⟩ := lz_get hX (hA.wN_lt i)
    have hrk : r.length = k := hA.row r (List.mem_iff_getElem?.2 ⟨_, hr⟩)
    have hst := hA.wN_step hr hu
    have hlt := hA.wN_lt i
    have hR := hL.2 _ (List.mem_iff_getElem?.2 ⟨_, hl0⟩)
    dsimp only at hR
    obtain ⟨nb, no, rfl⟩ := RoL.pos hL.1 eNL_len hl0
    obtain ⟨rb, ro, rfl⟩ := RoL.pos hR eInt_len hst
    obtain ⟨wb, wo, rfl⟩ := RoL.pos hW eInt_len hu
    have hzl : lz.length = X.length := by rw [← hX, List.length_map]
    refine Ops.to rfl ?_
    refine Cd.cond_t rfl ?_
    refine Cd.skipTo rfl ?_
    refine Cd.seq ?_
    refine Cd.block ?_
    refine Cd.seq ?_
    refine Cd.draw rfl (by kernel_rfl) (.cons (.there .here) .nil) ?_
    intro F3 St4 hP5 hF6 hR7
    refine Dr.q (i := 0) hP5 rfl (by kernel_rfl) (q_fa fo_29_0 rfl) ?_
    refine Dr.q (i := 1) hP5 rfl (by kernel_rfl) (q_ldB isA_26 rfl .here rfl) ?_
    refine Dr.q (i := 2) hP5 rfl (by kernel_rfl) (q_mv rfl) ?_
    refine Dr.q (i := 3) hP5 rfl (by kernel_rfl) (q_ix (k := (wN X st ws i)) esz_26 rfl rfl (by omega)) ?_
    refine Dr.q (i := 4) hP5 rfl (by kernel_rfl) (q_ldR (v := .slice (some ⟨rb, ro, none⟩) r.length rc) isA_31 rfl (hL.1.at0 eNL_len hl0 rfl)) ?_
    refine Dr.q (i := 5) hP5 rfl (by kernel_rfl) (q_mv rfl) ?_
    refine Dr.q (i := 6) hP5 rfl (by kernel_rfl) (q_mv rfl) ?_
    refine Dr.q (i := 7) hP5 rfl (by kernel_rfl) (q_ix (k := i) esz_31 rfl rfl (by omega)) ?_
    refine Dr.q (i := 8) hP5 rfl (by kernel_rfl) (q_ldR isA_3 rfl (hW.at0 eInt_len hu rfl)) ?_
    refine Dr.q (i := 9) hP5 rfl (by kernel_rfl) (q_ix (k := u) esz_31 rfl rfl (by omega)) ?_
    refine Dr.q (i := 10) hP5 rfl (by kernel_rfl) (q_ldR isA_3 rfl (hR.at0 eInt_len hst rfl)) ?_
    refine Dr.tail 11 (by kernel_rfl) ?_
    refine Ops.sat ?_ (fun _ hs => hR7 .here hs)
    refine Ops.q (q_asg rfl) ?_
    refine Ops.to rfl ?_
    refine Cd.region ?_
    refine Ops.q (q_mv rfl) ?_
    refine Ops.q (q_mv rfl) ?_
    refine Ops.lit [.int .i64 ((wN X st ws (i + 1) : Nat) : Int)] el_31 zsb_3 rfl rfl ⟨by decide, by decide⟩ rfl ?_
    intro b8
    refine Ops.app (news := [.int .i64 ((wN X st ws (i + 1) : Nat) : Int)]) el_31 zsb_3 (by decide) rfl rfl (fun _ hs => hs.ownRo .here) (fun _ hs => (hs.pull .here).drop) (fun _ _ => (.there .here)) rfl (one rfl) (by omega) (by omega) ?_
    intro a9 c10
    refine Ops.q (q_asg rfl) ?_
    refine Ops.to rfl ?_
    refine Cd.region ?_
    refine Ops.q (q_mv rfl) ?_
    refine Ops.q (q_ar rfl rfl (a_inc (by omega))) ?_
    refine Ops.q (q_asg rfl) ?_
    refine Ops.rnd ((i + 1, a9, c10)) rfl (by dsimp only; exact (by omega)) (by dsimp only; omega) ⟨rfl, rfl, rfl, rfl, rfl, rfl, trivial⟩ (fun _ hs => by rw [wlL_next X st ws (i + 1)]; exact ((hs.pull .here).pull (.there .here))) 
  · refine Ops.q (q_cmp rfl rfl (c_nlt (by omega))) ?_
    refine Ops.to rfl ?_
    refine Cd.cond_f rfl ?_
    refine Cd.exitTo rfl ?_
    refine Cd.seq ?_
    refine Cd.region ?_
    refine Ops.q (q_mv rfl) ?_
    refine Ops.q (q_asg rfl) ?_
    refine Ops.to rfl ?_
    refine Cd.rt (fn := Tryz.f7) [.slice pa (i + 1) pc] (by with_reducible repeat (first | exact rq_here | apply rq_then | apply rq_block)) rfl ⟨rfl, trivial⟩ ?_
    intro w' hs'
    have hil : i = ws.length := by omega
    rw [hil] at hs'
    exact ⟨(pa, pc), by rw [hil]; rfl, ((hs'.pull .here).pull (.there .here)).drop⟩
theorem even_c (w : World) : Calls Tryz.prog 37 [].toArray w fun e w' => ∃ x : Option Addr × Option Addr × List NL, e = .returned (.agg [.slice x.1 2 2, .int .i64 0, .slice x.2.1 2 2].toArray) ∧ x.2.2.map (fun l : NL => l.2) = [[0, 1], [1, 0]] ∧ Sat w w' [rd (AutF x.1 x.2.1 x.2.2 [true, false])] := by
  refine fstart Tryz.func37 rfl rfl (Sat.nil w) ?_
  refine Cd.seq ?_
  refine Cd.region ?_
  refine Ops.alc [.slice none 0 0, .int .i64 0, .slice none 0 0] zc_29 ?_
  intro b1
  refine Ops.to rfl ?_
  refine Cd.seq ?_
  refine Cd.region ?_
  refine Ops.lit [.int .i64 0, .int .i64 1] el_31 zsb_3 rfl rfl ⟨by decide, by decide⟩ rfl ?_
  intro b2
  refine Ops.lit [.int .i64 1, .int .i64 0] el_31 zsb_3 rfl rfl ⟨by decide, by decide⟩ rfl ?_
  intro b3
  refine Ops.lit [.slice (some ⟨b2, 0, none⟩) 2 2, .slice (some ⟨b3, 0, none⟩) 2 2] el_26 zsb_31 rfl rfl ⟨by decide, by decide⟩ rfl ?_
  intro b4
  refine Ops.lit [.bool true, .bool false] el_27 zsb_4 rfl rfl ⟨by decide, by decide⟩ rfl ?_
  intro b5
  refine Ops.q (q_bld [.slice (some ⟨b4, 0, none⟩) 2 2, .int .i64 0, .slice (some ⟨b5, 0, none⟩) 2 2] pls_29 zc_29 rfl rfl) ?_
  refine Ops.stB [.slice (some ⟨b4, 0, none⟩) 2 2, .int .i64 0, .slice (some ⟨b5, 0, none⟩) 2 2] [.slice (some ⟨b4, 0, none⟩) 2 2, .int .i64 0, .slice (some ⟨b5, 0, none⟩) 2 2] sz_29 rfl rfl rfl (one rfl) .p4 rfl rfl ?_
  refine Ops.to rfl ?_
  refine Cd.rt (fn := Tryz.f37) [.agg [.slice (some ⟨b4, 0, none⟩) 2 2, .int .i64 0, .slice (some ⟨b5, 0, none⟩) 2 2].toArray] (by with_reducible repeat (first | exact rq_here | apply rq_then | apply rq_block)) rfl ⟨⟨_, _, rfl, fun _ hs => run_loadN isA_29 sz_29 (fun o u hu => Sat.atB .p4 (by rw [Nat.zero_add]; exact hu) hs)⟩, trivial⟩ ?_
  intro w' hs'
  have h1 := Sat.froz (ψ := fun w => RoL w (some ⟨b2, 0, none⟩) eInt [0, 1]) ((((((hs'.pull .here).pull (.there .here)).pull .p2).pull .p3).pull .p4).drop) (fun w S h => ro_of_rowP h)
  have h2 := Sat.merge (ψ := LLF [((some ⟨b2, 0, none⟩, 2), [0, 1]), ((some ⟨b3, 0, none⟩, 2), [1, 0])]) (h1.pull (.there .here)) (fun w S h h' => fun l hl => by rcases List.mem_cons.1 hl with rfl | hl; (· exact h'); (· rcases List.mem_cons.1 hl with rfl | hl; (· exact ro_of_rowP h); (· cases hl)))
  have h3 := Sat.merge (ψ := fun w => RoLL w (some ⟨b4, 0, none⟩) [((some ⟨b2, 0, none⟩, 2), [0, 1]), ((some ⟨b3, 0, none⟩, 2), [1, 0])]) (h2.pull (.there .here)) (fun w S h h' => ⟨ro_of_rowP h, h'⟩)
  have h4 := Sat.merge (ψ := AutF (some ⟨b4, 0, none⟩) (some ⟨b5, 0, none⟩) [((some ⟨b2, 0, none⟩, 2), [0, 1]), ((some ⟨b3, 0, none⟩, 2), [1, 0])] [true, false]) (h3.pull (.there .here)) (fun w S h h' => ⟨h', ro_of_rowP h⟩)
  exact ⟨(some ⟨b4, 0, none⟩, some ⟨b5, 0, none⟩, [((some ⟨b2, 0, none⟩, 2), [0, 1]), ((some ⟨b3, 0, none⟩, 2), [1, 0])]), rfl, rfl, h4⟩
theorem even_ok {ws : List Int} (h : ∀ x ∈ ws, 0 ≤ x ∧ x < 2) : AutOK [[0, 1], [1, 0]] 0 [true, false] ws 2 :=
  ⟨by decide, by decide, by decide, by decide, by decide, rfl, h⟩
theorem decides_c (w : World) : Calls Tryz.prog 11 [].toArray w fun e w' => e = .returned (.bool true) ∧ Sat w w' [] := by
  refine fstart Tryz.func11 rfl rfl (Sat.nil w) ?_
  refine Cd.seq ?_
  refine Cd.region ?_
  refine Ops.q (q_asg rfl) ?_
  refine Ops.to rfl ?_
  refine Cd.seq ?_
  refine Cd.region ?_
  refine Ops.cl (α := {x : Option Addr × Option Addr × List NL // x.2.2.map (fun l : NL => l.2) = [[0, 1], [1, 0]]}) (v := fun x => .agg [.slice x.1.1 2 2, .int .i64 0, .slice x.1.2.1 2 2].toArray) (B := fun x => [rd (AutF x.1.1 x.1.2.1 x.1.2.2 [true, false])]) en_37 rfl (fun w hs => (even_c w).mono fun e w' ⟨x, h1, h2, h3⟩ => ⟨⟨x, h2⟩, h1, h3⟩) ?_
  rintro ⟨⟨na1, aa1, lz1⟩, hz1⟩
  dsimp only at hz1
  refine Ops.lit [.int .i64 1, .int .i64 0, .int .i64 1] el_31 zsb_3 rfl rfl ⟨by decide, by decide⟩ rfl ?_
  intro b1
  refine Ops.cp (v := .tuple [.int .i64 (1), .int .i64 0].toArray) en_6 rfl ?_ ?_
  · intro w hs
    have hzl : lz1.length = 2 := by have := congrArg List.length hz1; simpa using this
    have hr := hs.read (.there .here)
    have h9 := decided_c na1 2 lz1 0 aa1 2 [true, false] (some ⟨b1, 0, none⟩) 3 [1, 0, 1] 2 [[0, 1], [1, 0]] w hz1 (even_ok (by decide)) (by decide) (by decide) (by decide) hr.1 hr.2 (hs.ownRo .here)
    rw [show accP [[0, 1], [1, 0]] 0 [true, false] [1, 0, 1] = true by decide, hzl] at h9
    exact h9
  refine Ops.q (q_mv rfl) ?_
  refine Ops.q (q_ext rfl rfl) ?_
  refine Ops.q (q_ext rfl rfl) ?_
  refine Ops.q (q_asg rfl) ?_
  refine Ops.q (q_asg rfl) ?_
  refine Ops.to rfl ?_
  refine Cd.seq ?_
  refine Cd.region ?_
  refine Ops.cl (α := {x : Option Addr × Option Addr × List NL // x.2.2.map (fun l : NL => l.2) = [[0, 1], [1, 0]]}) (v := fun x => .agg [.slice x.1.1 2 2, .int .i64 0, .slice x.1.2.1 2 2].toArray) (B := fun x => [rd (AutF x.1.1 x.1.2.1 x.1.2.2 [true, false])]) en_37 rfl (fun w hs => (even_c w).mono fun e w' ⟨x, h1, h2, h3⟩ => ⟨⟨x, h2⟩, h1, h3⟩) ?_
  rintro ⟨⟨na2, aa2, lz2⟩, hz2⟩
  dsimp only at hz2
  refine Ops.lit [.int .i64 1] el_31 zsb_3 rfl rfl ⟨by decide, by decide⟩ rfl ?_
  intro b2
  refine Ops.cp (v := .tuple [.int .i64 (-1), .int .i64 0].toArray) en_6 rfl ?_ ?_
  · intro w hs
    have hzl : lz2.length = 2 := by have := congrArg List.length hz2; simpa using this
    have hr := hs.read (.there .here)
    have h9 := decided_c na2 2 lz2 0 aa2 2 [true, false] (some ⟨b2, 0, none⟩) 1 [1] 2 [[0, 1], [1, 0]] w hz2 (even_ok (by decide)) (by decide) (by decide) (by decide) hr.1 hr.2 (hs.ownRo .here)
    rw [show accP [[0, 1], [1, 0]] 0 [true, false] [1] = false by decide, hzl] at h9
    exact h9
  refine Ops.q (q_mv rfl) ?_
  refine Ops.q (q_ext rfl rfl) ?_
  refine Ops.q (q_ext rfl rfl) ?_
  refine Ops.q (q_asg rfl) ?_
  refine Ops.q (q_asg rfl) ?_
  refine Ops.to rfl ?_
  refine Cd.seq ?_
  refine Cd.region ?_
  refine Ops.q (q_mv rfl) ?_
  refine Ops.q (q_cmp rfl rfl (c_eq (by decide))) ?_
  refine Ops.q (q_mv rfl) ?_
  refine Ops.q (q_mv rfl) ?_
  refine Ops.q (q_cmp rfl rfl (c_eq (by decide))) ?_
  refine Ops.q (q_pickT rfl rfl) ?_
  refine Ops.q (q_mv rfl) ?_
  refine Ops.q (q_mv rfl) ?_
  refine Ops.q (q_cmp rfl rfl (c_eq (by decide))) ?_
  refine Ops.q (q_pickT rfl rfl) ?_
  refine Ops.q (q_mv rfl) ?_
  refine Ops.q (q_mv rfl) ?_
  refine Ops.q (q_cmp rfl rfl (c_eq (by decide))) ?_
  refine Ops.q (q_pickT rfl rfl) ?_
  refine Ops.q (q_asg rfl) ?_
  refine Ops.to rfl ?_
  refine Cd.rt (fn := Tryz.f11) [.bool true] (by with_reducible repeat (first | exact rq_here | apply rq_then | apply rq_block)) rfl ⟨rfl, trivial⟩ ?_
  intro w' hs'
  exact ⟨rfl, hs'.none⟩
end Go.Proofs.YtilcdghliigngaaGreatDoor
namespace Go.Proofs.YtilcdghliigngaaGreatDoor.Cp
open Go.RowKit Go.Proofs.YtilcdghliigngaaGreatDoorGl Go.Proofs.YtilcdghliigngaaGreatDoorPm
set_option linter.unusedVariables false
set_option linter.unusedSimpArgs false
abbrev RQ := (Nat × Nat) × List Int
abbrev rcell (n : Nat) (q : RQ) : Value := .slice (some ⟨q.1.1, 0, none⟩) n q.1.2
abbrev rrow (n : Nat) (q : RQ) : Atom := row (some ⟨q.1.1, 0, none⟩) q.1.2 3 1 n (q.2.flatMap eInt)
abbrev simA (S : Nat) (na : Option Addr) (nc : Nat) (sa : Option Addr) (sc : Nat) (ns : List Prm) (ip : Int) (m : Nat) (M : Nat) (E : List WEnt) (now : Nat) (B BC : Nat) (sts : List Stt) (q : List RQ) (F : List Atom) : List Atom :=
  blk S 130 ([.slice na ns.length nc, .int .i64 ip, .slice sa m sc, .map (some M), .int .i64 (now : Int), .slice (some ⟨B, 0, none⟩) ns.length BC] ++ q.map (rcell ns.length)) ::
  row (some ⟨B, 0, none⟩) BC 133 2 ns.length (sts.flatMap eStt) :: row na nc 62 8 ns.length (ns.flatMap ePrm) :: rd (wφ M E) :: (F ++ q.map (rrow ns.length))
theorem ring_get {pre : List Value} {f : RQ → Value} {q : List RQ} {j o : Nat} {x : RQ} (hx : q[j]? = some x) (ho : o = pre.length + j) : (pre ++ q.map f)[o]? = some (f x) := by
  subst ho
  rw [List.getElem?_append_right (by omega), Nat.add_sub_cancel_left, List.getElem?_map, hx]; rfl
theorem row_c (S : Nat) (na : Option Addr) (nc : Nat) (sa : Option Addr) (sc : Nat) (ns : List Prm) (ip : Int) (m : Nat) (M : Nat) (now : Nat) (B BC : Nat) (q : List RQ) (G : List Atom) (d : Int) (j : Nat) (x : RQ) (w0 w : World) (hj : ((now : Int) + d) % 16 = (j : Int)) (hj2 : j < 16) (hx : q[j]? = some x) (hd : 0 ≤ d ∧ d ≤ 16) (hnow : now ≤ 10000) (hs : Sat w0 w (blk S 130 ([.slice na ns.length nc, .int .i64 ip, .slice sa m sc, .map (some M), .int .i64 (now : Int), .slice (some ⟨B, 0, none⟩) ns.length BC] ++ q.map (rcell ns.length)) :: G)) : Calls Tryz.prog 99 [.pointer (some ⟨S, 0, none⟩), .int .i64 d].toArray w fun e w' => e = .returned (rcell ns.length x) ∧ Sat w0 w' (blk S 130 ([.slice na ns.length nc, .int .i64 ip, .slice sa m sc, .map (some M), .int .i64 (now : Int), .slice (some ⟨B, 0, none⟩) ns.length BC] ++ q.map (rcell ns.length)) :: G) := by
  refine fstart Tryz.func99 rfl rfl hs ?_
  refine Cd.seq ?_
  refine Cd.region ?_
  refine Ops.q (q_asg rfl) ?_
  refine Ops.to rfl ?_
  refine Cd.seq ?_
  refine Cd.draw rfl (by kernel_rfl) (.cons .here .nil) ?_
  intro F1 St2 hP3 hF4 hR5
  refine Dr.q (i := 0) hP3 rfl (by kernel_rfl) (q_mv rfl) ?_
  refine Dr.q (i := 1) hP3 rfl (by kernel_rfl) (q_mv rfl) ?_
  refine Dr.q (i := 2) hP3 rfl (by kernel_rfl) (q_nck rfl) ?_
  refine Dr.q (i := 3) hP3 rfl (by kernel_rfl) (q_fa fo_130_2 rfl) ?_
  refine Dr.q (i := 4) hP3 rfl (by kernel_rfl) (q_ldB isA_3 rfl .here rfl) ?_
  refine Dr.q (i := 5) hP3 rfl (by kernel_rfl) (q_mv rfl) ?_
  refine Dr.q (i := 6) hP3 rfl (by kernel_rfl) (q_ar rfl rfl (a_add (by omega))) ?_
  refine Dr.q (i := 7) hP3 rfl (by kernel_rfl) (q_ar rfl rfl ((by rw [a_rem (by omega) (by omega), hj]))) ?_
  refine Dr.q (i := 8) hP3 rfl (by kernel_rfl) (q_nck rfl) ?_
  refine Dr.q (i := 9) hP3 rfl (by kernel_rfl) (q_fa fo_130_4 rfl) ?_
  refine Dr.q (i := 10) hP3 rfl (by kernel_rfl) (q_ixA (k := j) asz_128 rfl rfl (by omega)) ?_
  refine Dr.q (i := 11) hP3 rfl (by kernel_rfl) (q_ldB isA_31 rfl .here (ring_get hx (by simp))) ?_
  refine Dr.tail 12 (by kernel_rfl) ?_
  refine Ops.sat ?_ (fun _ hs => hR5 .here hs)
  refine Ops.q (q_asg rfl) ?_
  refine Ops.to rfl ?_
  refine Cd.rt (fn := Tryz.f99) [rcell ns.length x] (by with_reducible repeat (first | exact rq_here | apply rq_then | apply rq_block)) rfl ⟨rfl, trivial⟩ ?_
  intro w' hs'
  exact ⟨rfl, hs'⟩
def addQ (now : Nat) (q : List RQ) (s : Syn) : List RQ := q.modify (((now : Int) + s.dl) % 16).toNat fun x => (x.1, x.2.modify s.dst.toNat fun v => IntKind.i64.wrap (v + s.wt))
def clrQ (now n : Nat) (q : List RQ) : List RQ := q.modify (now % 16) fun x => (x.1, List.replicate n 0)
theorem addQ_set {now : Nat} {q : List RQ} {s : Syn} {j dn : Nat} {x : RQ} {v : Int} (hj : ((now : Int) + s.dl) % 16 = (j : Int)) (hd : s.dst = (dn : Int)) (hx : q[j]? = some x) (hv : x.2[dn]? = some v) : addQ now q s = q.set j (x.1, x.2.set dn (IntKind.i64.wrap (v + s.wt))) := by
  unfold addQ
  rw [hj, hd, Int.toNat_natCast, Int.toNat_natCast, modify_set hx, modify_set hv]
theorem cells_modify {n : Nat} (q : List RQ) (k : Nat) (f : RQ → RQ) (hf : ∀ x, (f x).1 = x.1) : (q.modify k f).map (rcell n) = q.map (rcell n) := by
  apply List.ext_getElem?
  intro j
  simp only [List.getElem?_map, List.getElem?_modify]
  by_cases hj : k = j
  · subst hj; cases q[k]? <;> simp [rcell, hf]
  · simp [hj]
def ringOK (n : Nat) (q : List RQ) : Prop := q.length = 16 ∧ ∀ x ∈ q, x.2.length = n
theorem ringOK.add {n now : Nat} {q : List RQ} (h : ringOK n q) (s : Syn) : ringOK n (addQ now q s) := by
  refine ⟨by simp [addQ, h.1], fun x hx => ?_⟩
  obtain ⟨j, hj⟩ := List.mem_iff_getElem?.1 hx
  simp only [addQ, List.getElem?_modify] at hj
  cases hq : q[j]? with
  | none => rw [hq] at hj; simp at hj
  | some y =>
    have := h.2 y (List.mem_iff_getElem?.2 ⟨j, hq⟩)
    rw [hq] at hj
    simp at hj
    split at hj <;> subst hj <;> simpa using this
theorem ringOK.addAll {n now : Nat} : ∀ (l : List Syn) {q : List RQ}, ringOK n q → ringOK n (l.foldl (addQ now) q)
  | [], _, h => h
  | s :: l, _, h => ringOK.addAll l (h.add s)
theorem ringOK.clr {n now : Nat} {q : List RQ} (h : ringOK n q) : ringOK n (clrQ now n q) := by
  refine ⟨by simp [clrQ, h.1], fun x hx => ?_⟩
  obtain ⟨j, hj⟩ := List.mem_iff_getElem?.1 hx
  simp only [clrQ, List.getElem?_modify] at hj
  cases hq : q[j]? with
  | none => rw [hq] at hj; simp at hj
  | some y =>
    have := h.2 y (List.mem_iff_getElem?.2 ⟨j, hq⟩)
    rw [hq] at hj
    simp at hj
    split at hj <;> subst hj <;> simp [this]
theorem sim_cells {S n : Nat} {pre : List Value} {w0 w : World} {A : List Atom} {q : List RQ} {k : Nat} {f : RQ → RQ} (hf : ∀ x, (f x).1 = x.1) (h : Sat w0 w (blk S 130 (pre ++ q.map (rcell n)) :: A)) : Sat w0 w (blk S 130 (pre ++ (q.modify k f).map (rcell n)) :: A) := by
  rw [cells_modify q k f hf]; exact h
theorem step_c (S : Nat) (na : Option Addr) (nc : Nat) (sa : Option Addr) (sc : Nat) (ns : List Prm) (ip : Int) (m : Nat) (M : Nat) (E : List WEnt) (now : Nat) (B BC : Nat) (sts : List Stt) (q : List RQ) (F : List Atom) (ia : Option Addr) (ic : Nat) (ids : List Int) (ss : List Syn) (x0 : RQ) (T : List (Stt × Bool)) (w0 w : World) (hW : WI E ss) (hss : ∀ s ∈ ss, wi s.dst 0 ((ns.length : Int) - 1) ∧ wi s.dl 1 16) (hlen : ss.length ≤ 8192) (hn : ns.length ≤ 1024)
    (hst : sts.length = ns.length) (hq : ringOK ns.length q) (hnow : now < 10000) (hids : ∀ i ∈ ids, wi i 0 100000) (hil : ids.length ≤ 65536) (hx0 : q[now % 16]? = some x0) (hT : T = tickAll ns sts x0.2)
    (hs : Sat w0 w (simA S na nc sa sc ns ip m M E now B BC sts q (row ia ic 3 1 ids.length (ids.flatMap eInt) :: F))) :
    Calls Tryz.prog 68 [.pointer (some ⟨S, 0, none⟩), .slice ia ids.length ic].toArray w fun e w' => ∃ p : Option Addr × Nat, e = .returned (.slice p.1 (fireI 0 T).length p.2) ∧
      Sat w0 w' (simA S na nc sa sc ns ip m M E (now + 1) B BC (T.map (·.1)) ((metS ss (fireI 0 T) ids).foldl (addQ now) (clrQ now ns.length q)) (row p.1 p.2 3 1 (fireI 0 T).length ((fireI 0 T).flatMap eInt) :: F)) := by
  have hx0l : x0.2.length = ns.length := hq.2 x0 (List.mem_iff_getElem?.2 ⟨_, hx0⟩)
  have hTl : T.length = ns.length := by rw [hT]; exact tickAll_length (by omega) hx0l
  have hfT := fireI_len T 0
  refine fstartM Tryz.func68 rfl rfl hs ?_
  refine Cd.seq ?_
  refine Cd.region ?_
  refine Ops.box [.pointer (some ⟨S, 0, none⟩)] rfl rfl ?_
  intro b1
  refine Ops.q (q_asg rfl) ?_
  refine Ops.to rfl ?_
  refine Cd.seq ?_
  refine Cd.region ?_
  refine Ops.q (q_asg rfl) ?_
  refine Ops.to rfl ?_
  refine Cd.seq ?_
  refine Cd.region ?_
  refine Ops.q (q_ldB isA_76 rfl .here rfl) ?_
  refine Ops.cm (α := Unit) (v := fun _ => rcell ns.length x0) (A' := fun _ => blk S 130 ([.slice na ns.length nc, .int .i64 ip, .slice sa m sc, .map (some M), .int .i64 (now : Int), .slice (some ⟨B, 0, none⟩) ns.length BC] ++ q.map (rcell ns.length)) :: blk b1 76 [.pointer (some ⟨S, 0, none⟩)] :: row (some ⟨B, 0, none⟩) BC 133 2 ns.length (sts.flatMap eStt) :: row na nc 62 8 ns.length (ns.flatMap ePrm) :: rd (wφ M E) :: row ia ic 3 1 ids.length (ids.flatMap eInt) :: (F ++ q.map (rrow ns.length))) en_99 rfl (fun w hs => (row_c S _ _ _ _ ns ip m M now B BC q (blk b1 76 [.pointer (some ⟨S, 0, none⟩)] :: row (some ⟨B, 0, none⟩) BC 133 2 ns.length (sts.flatMap eStt) :: row na nc 62 8 ns.length (ns.flatMap ePrm) :: rd (wφ M E) :: row ia ic 3 1 ids.length (ids.flatMap eInt) :: (F ++ q.map (rrow ns.length))) 0 (now % 16) x0 w0 w (by omega) (by omega) hx0 (by omega) (by omega) (hs.pull (.there .here))).mono fun e w' h => ⟨(), h⟩) ?_
  intro _
  refine Ops.q (q_asg rfl) ?_
  refine Ops.to rfl ?_
  refine Cd.seq ?_
  refine Cd.seq ?_
  refine Cd.region ?_
  refine Ops.q (q_mv rfl) ?_
  refine Ops.q (q_len esz_31 rfl) ?_
  refine Ops.q (q_mv rfl) ?_
  refine Ops.to rfl ?_
  refine Cd.block ?_
  refine Cd.lp (σ := Nat × Option Addr × Nat) (fun s => s.1 ≤ ns.length) (fun s => [(1, .slice ia ids.length ic), (2, .pointer (some ⟨b1, 0, none⟩)), (5, .slice s.2.1 ((fireI 0 (T.take s.1)).length) s.2.2), (6, .slice (some ⟨x0.1.1, 0, none⟩) ns.length x0.1.2), (15, .slice (some ⟨x0.1.1, 0, none⟩) ns.length x0.1.2), (16, .int .i64 (ns.length : Int)), (17, .int .i64 (s.1 : Int))]) (fun s => blk S 130 ([.slice na ns.length nc, .int .i64 ip, .slice sa m sc, .map (some M), .int .i64 (now : Int), .slice (some ⟨B, 0, none⟩) ns.length BC] ++ q.map (rcell ns.length)) :: row (some ⟨B, 0, none⟩) BC 133 2 ns.length ((midS T sts s.1).flatMap eStt) :: row na nc 62 8 ns.length (ns.flatMap ePrm) :: rd (wφ M E) :: blk b1 76 [.pointer (some ⟨S, 0, none⟩)] :: row ia ic 3 1 ids.length (ids.flatMap eInt) :: row s.2.1 s.2.2 3 1 ((fireI 0 (T.take s.1)).length) ((fireI 0 (T.take s.1)).flatMap eInt) :: (F ++ q.map (rrow ns.length))) (fun s => ns.length - s.1) (0, none, 0) (Nat.zero_le _) ⟨rfl, rfl, rfl, rfl, rfl, rfl, rfl, trivial⟩ (fun _ hs => by have h1 := ((((((hs.pull .p5).pull .p2).pull .p5).pull .p5).pull .p5).pull .p5); have h2 := h1.nilRow 3 1; exact Sat.push h2 .p6) ?_
  rintro ⟨kk, oa, oc⟩ hI
  dsimp only at hI
  change Cd _ _ _ _ _ _ _ [(1, .slice ia ids.length ic), (2, .pointer (some ⟨b1, 0, none⟩)), (5, .slice oa ((fireI 0 (T.take kk)).length) oc), (6, .slice (some ⟨x0.1.1, 0, none⟩) ns.length x0.1.2), (15, .slice (some ⟨x0.1.1, 0, none⟩) ns.length x0.1.2), (16, .int .i64 (ns.length : Int)), (17, .int .i64 (kk : Int))] (blk S 130 ([.slice na ns.length nc, .int .i64 ip, .slice sa m sc, .map (some M), .int .i64 (now : Int), .slice (some ⟨B, 0, none⟩) ns.length BC] ++ q.map (rcell ns.length)) :: row (some ⟨B, 0, none⟩) BC 133 2 ns.length ((midS T sts kk).flatMap eStt) :: row na nc 62 8 ns.length (ns.flatMap ePrm) :: rd (wφ M E) :: blk b1 76 [.pointer (some ⟨S, 0, none⟩)] :: row ia ic 3 1 ids.length (ids.flatMap eInt) :: row oa oc 3 1 ((fireI 0 (T.take kk)).length) ((fireI 0 (T.take kk)).flatMap eInt) :: (F ++ q.map (rrow ns.length)))
  refine Cd.seq ?_
  refine Cd.region ?_
  by_cases hk : (kk : Int) < (ns.length : Int)
  · refine Ops.q (q_cmp rfl rfl (c_lt hk)) ?_
    obtain ⟨x2, hx3⟩ : ∃ x, ns[kk]? = some x := ⟨_, List.getElem?_eq_getElem (by omega)⟩
    refine Ops.rowpos .p2 (by omega) ?_
    rintro rb4 rfl
    obtain ⟨s, hs0⟩ : ∃ s, sts[kk]? = some s := ⟨_, List.getElem?_eq_getElem (by omega)⟩
    obtain ⟨v, hv⟩ : ∃ v, x0.2[kk]? = some v := ⟨_, List.getElem?_eq_getElem (by omega)⟩
    have ht : T[kk]? = some (tickP x2 s v) := by rw [hT]; exact tickAll_get hx3 hs0 hv
    have hsm : (midS T sts kk)[kk]? = some s := by rw [midS_get (by omega) (by omega)]; exact hs0
    have hml : (midS T sts kk).length = sts.length := midS_len (by omega) (by omega)
    have hfl := fireI_len (T.take kk) 0
    rw [List.length_take] at hfl
    refine Ops.to rfl ?_
    refine Cd.seq ?_
    refine Cd.cond_t rfl ?_
    refine Cd.skipTo rfl ?_
    refine Cd.seq ?_
    refine Cd.block ?_
    refine Cd.seq ?_
    refine Cd.region ?_
    refine Ops.q (q_mv rfl) ?_
    refine Ops.q (q_ix (k := kk) esz_31 rfl rfl (by omega)) ?_
    refine Ops.q (q_ldO isA_3 rfl (.there (.there (.there (.there (.there (.there (.there (Pull.right (pull_get (f := rrow ns.length) hx0) F)))))))) (fm_at0 eInt_len hv rfl)) ?_
    refine Ops.q (q_asg rfl) ?_
    refine Ops.q (q_asg rfl) ?_
    refine Ops.to rfl ?_
    refine Cd.seq ?_
    refine Cd.draw rfl (by kernel_rfl) (.cons .p4 (.cons .here (.cons (.there .here) (.cons .here .nil)))) ?_
    intro F5 St6 hP7 hF8 hR9
    refine Dr.q (i := 0) hP7 rfl (by kernel_rfl) (q_ldB isA_76 rfl .here rfl) ?_
    refine Dr.q (i := 1) hP7 rfl (by kernel_rfl) (q_nck rfl) ?_
    refine Dr.q (i := 2) hP7 rfl (by kernel_rfl) (q_fa fo_130_0 rfl) ?_
    refine Dr.q (i := 3) hP7 rfl (by kernel_rfl) (q_fa fo_40_0 rfl) ?_
    refine Dr.q (i := 4) hP7 rfl (by kernel_rfl) (q_ldB isA_37 rfl (.there .here) rfl) ?_
    refine Dr.q (i := 5) hP7 rfl (by kernel_rfl) (q_mv rfl) ?_
    refine Dr.q (i := 6) hP7 rfl (by kernel_rfl) (q_ix (k := kk) esz_37 rfl rfl (by omega)) ?_
    refine Dr.q (i := 7) hP7 rfl (by kernel_rfl) (q_ldON [.int .i64 x2.lk, .int .i64 x2.leak, .int .i64 x2.bias, .int .i64 x2.th, .int .i64 x2.rk, .int .i64 x2.rs, .int .i64 x2.fl, .int .i64 x2.rest] isA_62 sz_62 rfl .p2 (fm_atN ePrm_len hx3)) ?_
    refine Dr.q (i := 8) hP7 rfl (by kernel_rfl) (q_ldB isA_76 rfl .here rfl) ?_
    refine Dr.q (i := 9) hP7 rfl (by kernel_rfl) (q_nck rfl) ?_
    refine Dr.q (i := 10) hP7 rfl (by kernel_rfl) (q_fa fo_130_3 rfl) ?_
    refine Dr.q (i := 11) hP7 rfl (by kernel_rfl) (q_ldB isA_126 rfl (.there .here) rfl) ?_
    refine Dr.q (i := 12) hP7 rfl (by kernel_rfl) (q_mv rfl) ?_
    refine Dr.q (i := 13) hP7 rfl (by kernel_rfl) (q_ix (k := kk) esz_126 rfl rfl (by omega)) ?_
    refine Dr.q (i := 14) hP7 rfl (by kernel_rfl) (q_ldON [.int .i64 s.v, .int .i64 s.rest] isA_133 sz_133 rfl .p3 (fm_atN eStt_len hsm)) ?_
    refine Dr.q (i := 15) hP7 rfl (by kernel_rfl) (q_mv rfl) ?_
    refine Dr.e2 (i := 16) (j := 21) rfl rfl (by kernel_rfl) ?_ ?_
    · refine Ops.cp en_100 rfl (fun w hs => tick_c x2 s v w) ?_
      refine Dr.back (fun _ hs => hF8 .here hs) ?_
      refine Dr.q (i := 17) hP7 rfl (by kernel_rfl) (q_mv rfl) ?_
      refine Dr.q (i := 18) hP7 rfl (by kernel_rfl) (q_ext rfl rfl) ?_
      refine Dr.q (i := 19) hP7 rfl (by kernel_rfl) (q_ext rfl rfl) ?_
      refine Dr.q (i := 20) hP7 rfl (by kernel_rfl) (q_ext rfl rfl) ?_
      refine Dr.e (i := 21) rfl (by kernel_rfl) ?_
      refine Ops.alc [.int .i64 0, .int .i64 0] zc_133 ?_
      intro b10
      refine Dr.back (fun _ hs => hF8 (.there .here) hs) ?_
      refine Dr.e (i := 22) rfl (by kernel_rfl) ?_
      refine Ops.stB [.int .i64 ((tickP x2 s v).1.v), .int .i64 ((tickP x2 s v).1.rest)] [.int .i64 ((tickP x2 s v).1.v), .int .i64 ((tickP x2 s v).1.rest)] sz_133 rfl rfl rfl (one rfl) .here rfl rfl ?_
      refine Dr.back (fun _ hs => hF8 (.there .here) hs) ?_
      refine Dr.q (i := 23) hP7 rfl (by kernel_rfl) (q_asg rfl) ?_
      refine Dr.tail 24 (by kernel_rfl) ?_
      refine Ops.sat ?_ (fun _ hs => hR9 (.there .here) hs)
      refine Ops.q (q_asg rfl) ?_
      refine Ops.to rfl ?_
      refine Cd.seq ?_
      refine Cd.draw rfl (by kernel_rfl) (.cons .here (.cons .here (.cons .p2 .nil))) ?_
      intro F11 St12 hP13 hF14 hR15
      refine Dr.q (i := 0) hP13 rfl (by kernel_rfl) (q_ldB isA_76 rfl .here rfl) ?_
      refine Dr.q (i := 1) hP13 rfl (by kernel_rfl) (q_nck rfl) ?_
      refine Dr.q (i := 2) hP13 rfl (by kernel_rfl) (q_fa fo_130_3 rfl) ?_
      refine Dr.q (i := 3) hP13 rfl (by kernel_rfl) (q_ldB isA_126 rfl (.there .here) rfl) ?_
      refine Dr.q (i := 4) hP13 rfl (by kernel_rfl) (q_mv rfl) ?_
      refine Dr.q (i := 5) hP13 rfl (by kernel_rfl) (q_ldBN [.int .i64 ((tickP x2 s v).1.v), .int .i64 ((tickP x2 s v).1.rest)] isA_133 sz_133 rfl .p2 rfl) ?_
      refine Dr.tail 6 (by kernel_rfl) ?_
      refine Ops.sat ?_ (fun _ hs => hR15 .here hs)
      refine Ops.q (q_ix (k := kk) esz_126 rfl rfl (by omega)) ?_
      refine Ops.stO [.int .i64 ((tickP x2 s v).1.v), .int .i64 ((tickP x2 s v).1.rest)] (((midS T sts kk).set kk (⟨(tickP x2 s v).1.v, (tickP x2 s v).1.rest⟩ : Stt)).flatMap eStt) sz_133 rfl rfl rfl (one rfl) .p4 (by rw [fm_length eStt_len]; simp only [List.length_cons, List.length_nil]; omega) (fm_set eStt_len (midS T sts kk) kk (⟨(tickP x2 s v).1.v, (tickP x2 s v).1.rest⟩ : Stt) (by omega)) ?_
      refine Ops.to rfl ?_
      refine Cd.seq ?_
      refine Cd.region ?_
      refine Ops.q (q_mv rfl) ?_
      refine Ops.to rfl ?_
      refine Cd.cond rfl (fun h16 => ?_) (fun h16 => ?_)
      · refine Cd.region ?_
        refine Ops.q (q_mv rfl) ?_
        refine Ops.q (q_mv rfl) ?_
        refine Ops.lit [.int .i64 (kk : Int)] el_31 zsb_3 rfl rfl ⟨by decide, by decide⟩ rfl ?_
        intro b17
        refine Ops.app (news := [.int .i64 (kk : Int)]) el_31 zsb_3 (by decide) rfl rfl (fun _ hs => hs.ownRo .here) (fun _ hs => (hs.pull .here).drop) (fun _ _ => .p7) rfl (one rfl) (by omega) (by omega) ?_
        intro a18 c19
        refine Ops.q (q_asg rfl) ?_
        refine Ops.to rfl ?_
        refine Cd.region ?_
        refine Ops.q (q_ar rfl rfl (a_inc (by omega))) ?_
        refine Ops.q (q_mv rfl) ?_
        refine Ops.rnd ((kk + 1, a18, c19)) rfl (by dsimp only; exact (by omega)) (by dsimp only; omega) ⟨rfl, rfl, (by rw [fireI_take ht, if_pos h16, List.length_append]; rfl), rfl, rfl, rfl, rfl, trivial⟩ (fun _ hs => by have h1 := ((((((((hs.pull .p7).pull .p7).pull .p2).pull .p7).pull .p6).pull .p7).pull .p6).pull .p7).drop; dsimp only; rw [fireI_take ht, if_pos h16, fm_app, List.length_append, ← midS_set ht (by omega)]; exact h1) 
      · refine Cd.skipTo rfl ?_
        refine Cd.region ?_
        refine Ops.q (q_ar rfl rfl (a_inc (by omega))) ?_
        refine Ops.q (q_mv rfl) ?_
        refine Ops.rnd ((kk + 1, oa, oc)) rfl (by dsimp only; exact (by omega)) (by dsimp only; omega) ⟨rfl, rfl, (by rw [fireI_take ht, if_neg (by simp [h16]), List.append_nil]; rfl), rfl, rfl, rfl, rfl, trivial⟩ (fun _ hs => by have h1 := ((((((((hs.pull .p7).pull .p7).pull .p2).pull .p7).pull .p6).pull .p7).pull .p6).pull .p7).drop; dsimp only; rw [fireI_take ht, if_neg (by simp [h16]), List.append_nil, ← midS_set ht (by omega)]; exact h1) 
    · refine Ops.alc [.int .i64 0, .int .i64 0] zc_133 ?_
      intro b20
      refine Dr.back (fun _ hs => hF8 (.there .here) hs) ?_
      refine Dr.e (i := 16) rfl (by kernel_rfl) ?_
      refine Ops.cp en_100 rfl (fun w hs => tick_c x2 s v w) ?_
      refine Dr.back (fun _ hs => hF8 (.there .here) hs) ?_
      refine Dr.q (i := 17) hP7 rfl (by kernel_rfl) (q_mv rfl) ?_
      refine Dr.q (i := 18) hP7 rfl (by kernel_rfl) (q_ext rfl rfl) ?_
      refine Dr.q (i := 19) hP7 rfl (by kernel_rfl) (q_ext rfl rfl) ?_
      refine Dr.q (i := 20) hP7 rfl (by kernel_rfl) (q_ext rfl rfl) ?_
      refine Dr.e (i := 22) rfl (by kernel_rfl) ?_
      refine Ops.stB [.int .i64 ((tickP x2 s v).1.v), .int .i64 ((tickP x2 s v).1.rest)] [.int .i64 ((tickP x2 s v).1.v), .int .i64 ((tickP x2 s v).1.rest)] sz_133 rfl rfl rfl (one rfl) .here rfl rfl ?_
      refine Dr.back (fun _ hs => hF8 (.there .here) hs) ?_
      refine Dr.q (i := 23) hP7 rfl (by kernel_rfl) (q_asg rfl) ?_
      refine Dr.tail 24 (by kernel_rfl) ?_
      refine Ops.sat ?_ (fun _ hs => hR9 (.there .here) hs)
      refine Ops.q (q_asg rfl) ?_
      refine Ops.to rfl ?_
      refine Cd.seq ?_
      refine Cd.draw rfl (by kernel_rfl) (.cons .here (.cons .here (.cons .p2 .nil))) ?_
      intro F21 St22 hP23 hF24 hR25
      refine Dr.q (i := 0) hP23 rfl (by kernel_rfl) (q_ldB isA_76 rfl .here rfl) ?_
      refine Dr.q (i := 1) hP23 rfl (by kernel_rfl) (q_nck rfl) ?_
      refine Dr.q (i := 2) hP23 rfl (by kernel_rfl) (q_fa fo_130_3 rfl) ?_
      refine Dr.q (i := 3) hP23 rfl (by kernel_rfl) (q_ldB isA_126 rfl (.there .here) rfl) ?_
      refine Dr.q (i := 4) hP23 rfl (by kernel_rfl) (q_mv rfl) ?_
      refine Dr.q (i := 5) hP23 rfl (by kernel_rfl) (q_ldBN [.int .i64 ((tickP x2 s v).1.v), .int .i64 ((tickP x2 s v).1.rest)] isA_133 sz_133 rfl .p2 rfl) ?_
      refine Dr.tail 6 (by kernel_rfl) ?_
      refine Ops.sat ?_ (fun _ hs => hR25 .here hs)
      refine Ops.q (q_ix (k := kk) esz_126 rfl rfl (by omega)) ?_
      refine Ops.stO [.int .i64 ((tickP x2 s v).1.v), .int .i64 ((tickP x2 s v).1.rest)] (((midS T sts kk).set kk (⟨(tickP x2 s v).1.v, (tickP x2 s v).1.rest⟩ : Stt)).flatMap eStt) sz_133 rfl rfl rfl (one rfl) .p4 (by rw [fm_length eStt_len]; simp only [List.length_cons, List.length_nil]; omega) (fm_set eStt_len (midS T sts kk) kk (⟨(tickP x2 s v).1.v, (tickP x2 s v).1.rest⟩ : Stt) (by omega)) ?_
      refine Ops.to rfl ?_
      refine Cd.seq ?_
      refine Cd.region ?_
      refine Ops.q (q_mv rfl) ?_
      refine Ops.to rfl ?_
      refine Cd.cond rfl (fun h26 => ?_) (fun h26 => ?_)
      · refine Cd.region ?_
        refine Ops.q (q_mv rfl) ?_
        refine Ops.q (q_mv rfl) ?_
        refine Ops.lit [.int .i64 (kk : Int)] el_31 zsb_3 rfl rfl ⟨by decide, by decide⟩ rfl ?_
        intro b27
        refine Ops.app (news := [.int .i64 (kk : Int)]) el_31 zsb_3 (by decide) rfl rfl (fun _ hs => hs.ownRo .here) (fun _ hs => (hs.pull .here).drop) (fun _ _ => .p7) rfl (one rfl) (by omega) (by omega) ?_
        intro a28 c29
        refine Ops.q (q_asg rfl) ?_
        refine Ops.to rfl ?_
        refine Cd.region ?_
        refine Ops.q (q_ar rfl rfl (a_inc (by omega))) ?_
        refine Ops.q (q_mv rfl) ?_
        refine Ops.rnd ((kk + 1, a28, c29)) rfl (by dsimp only; exact (by omega)) (by dsimp only; omega) ⟨rfl, rfl, (by rw [fireI_take ht, if_pos h26, List.length_append]; rfl), rfl, rfl, rfl, rfl, trivial⟩ (fun _ hs => by have h1 := ((((((((hs.pull .p7).pull .p7).pull .p2).pull .p7).pull .p6).pull .p7).pull .p6).pull .p7).drop; dsimp only; rw [fireI_take ht, if_pos h26, fm_app, List.length_append, ← midS_set ht (by omega)]; exact h1) 
      · refine Cd.skipTo rfl ?_
        refine Cd.region ?_
        refine Ops.q (q_ar rfl rfl (a_inc (by omega))) ?_
        refine Ops.q (q_mv rfl) ?_
        refine Ops.rnd ((kk + 1, oa, oc)) rfl (by dsimp only; exact (by omega)) (by dsimp only; omega) ⟨rfl, rfl, (by rw [fireI_take ht, if_neg (by simp [h26]), List.append_nil]; rfl), rfl, rfl, rfl, rfl, trivial⟩ (fun _ hs => by have h1 := ((((((((hs.pull .p7).pull .p7).pull .p2).pull .p7).pull .p6).pull .p7).pull .p6).pull .p7).drop; dsimp only; rw [fireI_take ht, if_neg (by simp [h26]), List.append_nil, ← midS_set ht (by omega)]; exact h1) 
  · refine Ops.q (q_cmp rfl rfl (c_nlt (by omega))) ?_
    refine Ops.to rfl ?_
    refine Cd.seq ?_
    refine Cd.cond_f rfl ?_
    refine Cd.exitTo rfl ?_
    refine Cd.seq ?_
    refine Cd.region ?_
    refine Ops.q (q_mv rfl) ?_
    have hkn : kk = ns.length := by omega
    refine Ops.clr2 el_31 zsb_3 rfl (one rfl) (rep_int _) (.there (.there (.there (.there (.there (.there (.there (Upd.right (upd_get (f := rrow ns.length) (e' := (x0.1, List.replicate ns.length 0)) hx0) F)))))))) ?_
    refine Ops.to rfl ?_
    refine Cd.seq ?_
    refine Cd.seq ?_
    have hTk : T.take kk = T := List.take_of_length_le (by omega)
    have hmk : midS T sts kk = T.map (·.1) := by unfold midS; rw [hTk, List.drop_of_length_le (by omega), List.append_nil]
    have hcl : clrQ now ns.length q = q.set (now % 16) (x0.1, List.replicate ns.length 0) := modify_set hx0
    rw [hTk]
    refine Cd.sat (A' := blk S 130 ([.slice na ns.length nc, .int .i64 ip, .slice sa m sc, .map (some M), .int .i64 (now : Int), .slice (some ⟨B, 0, none⟩) ns.length BC] ++ (clrQ now ns.length q).map (rcell ns.length)) :: row (some ⟨B, 0, none⟩) BC 133 2 ns.length ((T.map (·.1)).flatMap eStt) :: row na nc 62 8 ns.length (ns.flatMap ePrm) :: rd (wφ M E) :: blk b1 76 [.pointer (some ⟨S, 0, none⟩)] :: row ia ic 3 1 ids.length (ids.flatMap eInt) :: row oa oc 3 1 ((fireI 0 T).length) ((fireI 0 T).flatMap eInt) :: (F ++ (clrQ now ns.length q).map (rrow ns.length))) ?_ (fun _ hs => by have h1 := (((((((hs.pull .p6).pull .p6).pull .p6).pull .p6).pull .p6).pull .p6).pull .p6); rw [hmk, ← hcl] at h1; exact sim_cells (fun _ => rfl) h1)
    refine Cd.region ?_
    refine Ops.q (q_ldB isA_76 rfl .p4 rfl) ?_
    refine Ops.q (q_nck rfl) ?_
    refine Ops.q (q_fa fo_130_1 rfl) ?_
    refine Ops.q (q_ldB isA_125 rfl .here rfl) ?_
    refine Ops.q (q_mv rfl) ?_
    refine Ops.q (q_mv rfl) ?_
    refine Ops.cl (α := Nat × Nat × Nat) (v := fun x => .func (.func 122) #[] #[.pointer (some ⟨x.1, 0, none⟩), .pointer (some ⟨x.2.1, 0, none⟩), .pointer (some ⟨x.2.2, 0, none⟩)]) (B := fun x => [blk x.1 125 [.map (some M)], blk x.2.1 31 [.slice oa ((fireI 0 T).length) oc], blk x.2.2 31 [.slice ia ids.length ic]]) en_101 rfl (fun w hs => from101_c M _ _ _ _ _ _ w) ?_
    rintro ⟨mb, fb, ib⟩
    refine Ops.to rfl ?_
    refine Cd.block ?_
    refine Cd.range2 (k := 122) (caps := [.pointer (some ⟨mb, 0, none⟩), .pointer (some ⟨fb, 0, none⟩), .pointer (some ⟨ib, 0, none⟩)]) (enc := argS) (xs := (metS ss (fireI 0 T) ids)) (X := [blk mb 125 [.map (some M)], blk fb 31 [.slice oa ((fireI 0 T).length) oc], blk ib 31 [.slice ia ids.length ic], row oa oc 3 1 ((fireI 0 T).length) ((fireI 0 T).flatMap eInt), row ia ic 3 1 ids.length (ids.flatMap eInt), rd (wφ M E)]) (β := Nat) (fun pre : List Syn => blk S 130 ([.slice na ns.length nc, .int .i64 ip, .slice sa m sc, .map (some M), .int .i64 (now : Int), .slice (some ⟨B, 0, none⟩) ns.length BC] ++ (pre.foldl (addQ now) (clrQ now ns.length q)).map (rcell ns.length)) :: row (some ⟨B, 0, none⟩) BC 133 2 ns.length ((T.map (·.1)).flatMap eStt) :: row na nc 62 8 ns.length (ns.flatMap ePrm) :: blk b1 76 [.pointer (some ⟨S, 0, none⟩)] :: (F ++ (pre.foldl (addQ now) (clrQ now ns.length q)).map (rrow ns.length))) (fun x (b : Nat) => [(12, .pointer (some ⟨b, 0, none⟩)), (2, .pointer (some ⟨b1, 0, none⟩))]) (fun pre x (b : Nat) => blk b 109 (eSyn x) :: blk S 130 ([.slice na ns.length nc, .int .i64 ip, .slice sa m sc, .map (some M), .int .i64 (now : Int), .slice (some ⟨B, 0, none⟩) ns.length BC] ++ (pre.foldl (addQ now) (clrQ now ns.length q)).map (rcell ns.length)) :: row (some ⟨B, 0, none⟩) BC 133 2 ns.length ((T.map (·.1)).flatMap eStt) :: row na nc 62 8 ns.length (ns.flatMap ePrm) :: blk b1 76 [.pointer (some ⟨S, 0, none⟩)] :: (F ++ (pre.foldl (addQ now) (clrQ now ns.length q)).map (rrow ns.length)))
      (iter117 mb fb ib M E ss hW hlen _ _ (fireI 0 T) ia ic ids hids (by omega) (by omega) w0) en_122 rfl (fun _ hs => toEnd6 (((((((((((hs.pull .p6).pull .p8).pull .p9).pull .p5).pull .p5).pull .p5).pull .p9).pull .p9).pull .p9).pull .p9))) rfl (fun _ => rfl) ?_ ?_ rfl ?_
    · intro l Y pre x hpost
      refine Cd.region ?_
      refine Ops.alc [.int .i64 0, .int .i64 0, .int .i64 0, .int .i64 0] zc_109 ?_
      intro b30
      refine Ops.stB [.int .i64 x.src, .int .i64 x.dst, .int .i64 x.wt, .int .i64 x.dl] [.int .i64 x.src, .int .i64 x.dst, .int .i64 x.wt, .int .i64 x.dl] sz_109 rfl rfl rfl (one rfl) .here rfl rfl ?_
      exact Ops.mid b30 ⟨rfl, rfl, trivial⟩ (fun _ hs => hs)
    · intro l Y pre x b hpost
      obtain ⟨post, hpost⟩ := hpost
      have hxm : x ∈ ss := metS_mem (fired := fireI 0 T) (ids := ids) (by rw [← hpost]; simp)
      obtain ⟨hdst, hdl⟩ := hss x hxm
      have hqp : ringOK ns.length (pre.foldl (addQ now) (clrQ now ns.length q)) := (ringOK.clr hq).addAll pre
      obtain ⟨j1, hj1⟩ : ∃ j : Nat, ((now : Int) + x.dl) % 16 = (j : Int) := ⟨(((now : Int) + x.dl) % 16).toNat, by omega⟩
      have hj2 : j1 < 16 := by omega
      obtain ⟨dn, hdn⟩ : ∃ j : Nat, x.dst = (j : Int) := ⟨x.dst.toNat, by unfold wi at hdst; omega⟩
      have hdn2 : dn < ns.length := by unfold wi at hdst; omega
      obtain ⟨x1, hx1⟩ : ∃ y, (pre.foldl (addQ now) (clrQ now ns.length q))[j1]? = some y := ⟨_, List.getElem?_eq_getElem (by have := hqp.1; omega)⟩
      have hx1l : x1.2.length = ns.length := hqp.2 x1 (List.mem_iff_getElem?.2 ⟨j1, hx1⟩)
      obtain ⟨v, hv⟩ : ∃ v, x1.2[dn]? = some v := ⟨_, List.getElem?_eq_getElem (by omega)⟩
      have hadd := addQ_set hj1 hdn hx1 hv
      refine Cd.pull (.there (.there (.there (.there (.there (Pull.left (Pull.right (pull_get (f := rrow ns.length) hx1) F) Y)))))) ?_
      refine Cd.block ?_
      refine Cd.draw rfl (by kernel_rfl) (.cons .here (.cons .here (.cons .p3 .nil))) ?_
      intro F31 St32 hP33 hF34 hR35
      refine Dr.q (i := 0) hP33 rfl (by kernel_rfl) (q_ldB isA_76 rfl .p2 rfl) ?_
      refine Dr.q (i := 1) hP33 rfl (by kernel_rfl) (q_fa fo_109_3 rfl) ?_
      refine Dr.q (i := 2) hP33 rfl (by kernel_rfl) (q_ldB isA_3 rfl (.there .here) rfl) ?_
      refine Dr.q (i := 4) hP33 rfl (by kernel_rfl) (q_fa fo_109_1 rfl) ?_
      refine Dr.q (i := 5) hP33 rfl (by kernel_rfl) (q_ldB isA_3 rfl (.there .here) rfl) ?_
      refine Dr.q (i := 8) hP33 rfl (by kernel_rfl) (q_fa fo_109_2 rfl) ?_
      refine Dr.q (i := 9) hP33 rfl (by kernel_rfl) (q_ldB isA_3 rfl (.there .here) rfl) ?_
      refine Dr.e (i := 3) rfl (by kernel_rfl) ?_
      refine Ops.cm (α := Unit) (v := fun _ => rcell ns.length x1) (A' := fun _ => blk S 130 ([.slice na ns.length nc, .int .i64 ip, .slice sa m sc, .map (some M), .int .i64 (now : Int), .slice (some ⟨B, 0, none⟩) ns.length BC] ++ (pre.foldl (addQ now) (clrQ now ns.length q)).map (rcell ns.length)) :: F31 :: row (some ⟨B, 0, none⟩) BC 133 2 ns.length ((T.map (·.1)).flatMap eStt) :: row na nc 62 8 ns.length (ns.flatMap ePrm) :: ((F ++ ((pre.foldl (addQ now) (clrQ now ns.length q)).eraseIdx j1).map (rrow ns.length)) ++ Y)) en_99 rfl (fun w hs => (row_c S _ _ _ _ ns ip m M now B BC (pre.foldl (addQ now) (clrQ now ns.length q)) (F31 :: row (some ⟨B, 0, none⟩) BC 133 2 ns.length ((T.map (·.1)).flatMap eStt) :: row na nc 62 8 ns.length (ns.flatMap ePrm) :: ((F ++ ((pre.foldl (addQ now) (clrQ now ns.length q)).eraseIdx j1).map (rrow ns.length)) ++ Y)) x.dl j1 x1 w0 w hj1 hj2 hx1 (by unfold wi at hdl; omega) (by omega) (hs.pull (.there .here))).mono fun e w' h => ⟨(), h⟩) ?_
      intro _
      refine Dr.back (fun _ hs => hF34 (.there .here) hs) ?_
      refine Dr.q (i := 6) hP33 rfl (by kernel_rfl) (q_ix (k := dn) esz_31 rfl (show some (Value.int .i64 x.dst) = some (.int .i64 (dn : Int)) from by rw [hdn]) hdn2) ?_
      refine Dr.q (i := 7) hP33 rfl (by kernel_rfl) (q_ldO isA_3 rfl .here (fm_at0 eInt_len hv rfl)) ?_
      refine Dr.q (i := 10) hP33 rfl (by kernel_rfl) (q_ar rfl rfl (rfl)) ?_
      refine Dr.tail 11 (by kernel_rfl) ?_
      refine Ops.sat ?_ (fun _ hs => hR35 (.there .here) hs)
      refine Ops.q (q_ix (k := dn) esz_31 rfl (show some (Value.int .i64 x.dst) = some (.int .i64 (dn : Int)) from by rw [hdn]) hdn2) ?_
      refine Ops.stO [.int .i64 (IntKind.i64.wrap (v + x.wt))] ((x1.2.set dn (IntKind.i64.wrap (v + x.wt))).flatMap eInt) sz_3 rfl rfl rfl (one rfl) .here (by rw [fm_length eInt_len]; simp only [List.length_cons, List.length_nil]; omega) (fm_set eInt_len x1.2 dn (IntKind.i64.wrap (v + x.wt)) (by omega)) ?_
      refine Ops.endQ (by with_reducible repeat (first | exact nq_end | apply nq_nq | apply xq_then | apply xq_block | apply nq_block)) (fun _ hs => ?_)
      have h1 := ((((((hs.pull .p2).pull .p5).pull .p5).pull .p5).pull .p4).pull .p5).drop
      have h2 := Sat.push (a := rrow ns.length (x1.1, x1.2.set dn (IntKind.i64.wrap (v + x.wt)))) h1 (.there (.there (.there (.there (Pull.left (Pull.right (pull_set (f := rrow ns.length) hx1) F) Y)))))
      rw [← hadd] at h2
      rw [foldl_snoc]
      exact sim_cells (fun _ => rfl) h2
    · intro d
      refine Cd.seq ?_
      refine Cd.region ?_
      refine Ops.q (q_ldB isA_76 rfl .p4 rfl) ?_
      refine Ops.q (q_nck rfl) ?_
      refine Ops.q (q_fa fo_130_2 rfl) ?_
      refine Ops.q (q_ldB isA_3 rfl (.there .here) rfl) ?_
      refine Ops.q (q_ar rfl rfl (a_inc (by omega))) ?_
      refine Ops.q (q_nck rfl) ?_
      refine Ops.q (q_fa fo_130_2 rfl) ?_
      refine Ops.stB [.int .i64 ((now + 1 : Nat) : Int)] ([.slice na ns.length nc, .int .i64 ip, .slice sa m sc, .map (some M), .int .i64 ((now + 1 : Nat) : Int), .slice (some ⟨B, 0, none⟩) ns.length BC] ++ ((metS ss (fireI 0 T) ids).foldl (addQ now) (clrQ now ns.length q)).map (rcell ns.length)) sz_3 rfl rfl rfl (one rfl) (.there .here) (ble_ok (by simp)) rfl ?_
      refine Ops.to rfl ?_
      refine Cd.seq ?_
      refine Cd.region ?_
      refine Ops.q (q_mv rfl) ?_
      refine Ops.q (q_asg rfl) ?_
      refine Ops.to rfl ?_
      refine Cd.rtM (fn := Tryz.f68) [.slice oa ((fireI 0 T).length) oc] (by with_reducible repeat (first | exact rqM_here | apply rq_then | apply rq_block)) rfl ⟨rfl, trivial⟩ .here ?_
      intro w' hs'
      have h1 := ((((hs'.pull .p2).pull .p2).pull .p2).pull .p3).drop
      exact ⟨(oa, oc), rfl, fromEnd6 h1⟩
theorem addR_map (now : Nat) (q : List RQ) (s : Syn) : (addQ now q s).map (·.2) = addR now (q.map (·.2)) s := by
  unfold addQ addR
  apply List.ext_getElem?
  intro j
  simp only [List.getElem?_map, List.getElem?_modify]
  by_cases hj : (((now : Int) + s.dl) % 16).toNat = j
  · subst hj; cases q[(((now : Int) + s.dl) % 16).toNat]? <;> simp
  · cases q[j]? <;> simp [hj]
theorem addR_all (now : Nat) : ∀ (l : List Syn) (q : List RQ), (l.foldl (addQ now) q).map (·.2) = l.foldl (addR now) (q.map (·.2))
  | [], _ => rfl
  | s :: l, q => by rw [List.foldl_cons, addR_all now l, addR_map, List.foldl_cons]
theorem clrR_map (now n : Nat) (q : List RQ) : (clrQ now n q).map (·.2) = (q.map (·.2)).modify (now % 16) fun _ => List.replicate n 0 := by
  unfold clrQ
  apply List.ext_getElem?
  intro j
  simp only [List.getElem?_map, List.getElem?_modify]
  by_cases hj : now % 16 = j
  · subst hj; cases q[now % 16]? <;> simp
  · cases q[j]? <;> simp [hj]
theorem stepR_eq {ns : List Prm} {ss : List Syn} {now : Nat} {sts : List Stt} {q : List RQ} {ids : List Int} {x0 : RQ} {T : List (Stt × Bool)} (hx0 : q[now % 16]? = some x0) (hT : T = tickAll ns sts x0.2) :
    stepR ns ss now sts (q.map (·.2)) ids = (T.map (·.1), ((metS ss (fireI 0 T) ids).foldl (addQ now) (clrQ now ns.length q)).map (·.2), fireI 0 T) := by
  unfold stepR
  rw [List.getElem?_map, hx0, addR_all, clrR_map]
  simp only [Option.map_some, Option.getD_some, ← hT]
end Go.Proofs.YtilcdghliigngaaGreatDoor.Cp
namespace Go.Proofs.YtilcdghliigngaaGreatDoor
open Go.RowKit Go.Proofs.YtilcdghliigngaaGreatDoorGl Go.Proofs.YtilcdghliigngaaGreatDoorPm
set_option linter.unusedVariables false
set_option linter.unusedSimpArgs false
def isPtr (P : Program) (T : TypeId) : Bool := match P.underlying T with | some (.pointer e) => e == P.pointee T | _ => false
theorem isPtr_u {P : Program} {T : TypeId} (h : isPtr P T = true) : P.underlying T = some (.pointer (P.pointee T)) := by
  unfold isPtr at h
  split at h
  · rename_i e he
    rw [he, (beq_iff_eq.1 h)]
  · cases h
theorem ip_76 : isPtr Tryz.prog 76 = true := by kernel_rfl
theorem ip_79 : isPtr Tryz.prog 79 = true := by kernel_rfl
theorem Ro.none {w : World} {cs : List Value} (h : Ro w none cs) : cs = [] := by
  cases cs with
  | nil => rfl
  | cons x xs =>
    obtain ⟨b, o, e, _⟩ := h 0 x rfl
    cases e
theorem fm_nil {α : Type} {enc : α → List Value} {sz : Nat} (h : ∀ x, (enc x).length = sz + 1) {xs : List α} (hx : xs.flatMap enc = []) : xs = [] := by
  cases xs with
  | nil => rfl
  | cons x xs =>
    rw [List.flatMap_cons] at hx
    have := congrArg List.length hx
    rw [List.length_append, h] at this
    simp at this
theorem is_c (S : Nat) (na : Option Addr) (n nc : Nat) (ip : Int) (sa : Option Addr) (m sc M now B BC : Nat) (q : List Cp.RQ) (w0 w : World) (F : List Atom) (hn : 0 < n) (hs : Sat w0 w (blk S 130 ([.slice na n nc, .int .i64 ip, .slice sa m sc, .map (some M), .int .i64 (now : Int), .slice (some ⟨B, 0, none⟩) n BC] ++ q.map (Cp.rcell n)) :: F)) : Calls Tryz.prog 64 [.pointer (some ⟨S, 0, none⟩)].toArray w fun e w' => e = .returned (.bool true) ∧ Sat w0 w' (blk S 130 ([.slice na n nc, .int .i64 ip, .slice sa m sc, .map (some M), .int .i64 (now : Int), .slice (some ⟨B, 0, none⟩) n BC] ++ q.map (Cp.rcell n)) :: F) := by
  refine fstart Tryz.func64 rfl rfl hs ?_
  refine Cd.seq ?_
  refine Cd.region ?_
  refine Ops.q (q_asg rfl) ?_
  refine Ops.to rfl ?_
  refine Cd.seq ?_
  refine Cd.region ?_
  refine Ops.q (q_mv rfl) ?_
  refine Ops.q (q_pNn (isPtr_u ip_76) rfl rfl) ?_
  refine Ops.q (q_mv rfl) ?_
  refine Ops.q (q_mv rfl) ?_
  refine Ops.q (q_nck rfl) ?_
  refine Ops.q (q_fa fo_130_3 rfl) ?_
  refine Ops.q (q_ldB isA_126 rfl .here rfl) ?_
  refine Ops.q (q_len esz_126 rfl) ?_
  refine Ops.q (q_cmp rfl rfl (c_gt (by omega))) ?_
  refine Ops.q (q_pickT rfl rfl) ?_
  refine Ops.q (q_asg rfl) ?_
  refine Ops.to rfl ?_
  refine Cd.rt (fn := Tryz.f64) [.bool true] (by with_reducible repeat (first | exact rq_here | apply rq_then | apply rq_block)) rfl ⟨rfl, trivial⟩ ?_
  intro w' hs'
  exact ⟨rfl, hs'⟩
theorem clintn_c (c : Nat) (w : World) : Calls Tryz.prog 66 [.slice none 0 c].toArray w fun e w' => ∃ p : Option Addr × Nat, e = .returned (.slice p.1 0 p.2) ∧ Sat w w' [row p.1 p.2 3 1 0 []] := by
  refine fstart Tryz.func66 rfl rfl (Sat.nil w) ?_
  refine Cd.seq ?_
  refine Cd.region ?_
  refine Ops.q (q_asg rfl) ?_
  refine Ops.to rfl ?_
  refine Cd.seq ?_
  refine Cd.seq ?_
  refine Cd.region ?_
  refine Ops.q (q_mv rfl) ?_
  refine Ops.q (q_nilS el_31 rfl rfl) ?_
  refine Ops.to rfl ?_
  refine Cd.cond_t rfl ?_
  refine Cd.seq ?_
  refine Cd.region ?_
  refine Ops.q (q_asg rfl) ?_
  refine Ops.to rfl ?_
  refine Cd.rt (fn := Tryz.f66) [.slice none 0 0] (by with_reducible repeat (first | exact rq_here | apply rq_then | apply rq_block)) rfl ⟨rfl, trivial⟩ ?_
  intro w' hs'
  exact ⟨(none, 0), rfl, hs'.nilRow 3 1⟩
theorem clints_c (a : Addr) (c : Nat) (xs : List Int) (w : World) (hX : RoL w (some a) eInt xs) (hl : xs.length ≤ 1000000) : Calls Tryz.prog 66 [.slice (some a) xs.length c].toArray w fun e w' => ∃ p : Option Addr × Nat, e = .returned (.slice p.1 xs.length p.2) ∧ Sat w w' [row p.1 p.2 3 1 xs.length (xs.flatMap eInt)] := by
  refine fstart Tryz.func66 rfl rfl (Sat.nil w) ?_
  refine Cd.seq ?_
  refine Cd.region ?_
  refine Ops.q (q_asg rfl) ?_
  refine Ops.to rfl ?_
  refine Cd.seq ?_
  refine Cd.seq ?_
  refine Cd.region ?_
  refine Ops.q (q_mv rfl) ?_
  refine Ops.q (q_nilS el_31 rfl rfl) ?_
  refine Ops.to rfl ?_
  refine Cd.cond_f rfl ?_
  refine Cd.skipTo rfl ?_
  refine Cd.seq ?_
  refine Cd.region ?_
  refine Ops.lit [] el_31 zsb_3 rfl rfl ⟨by decide, by decide⟩ rfl ?_
  intro b1
  refine Ops.q (q_mv rfl) ?_
  refine Ops.app (news := (xs.flatMap eInt)) el_31 zsb_3 (by decide) rfl rfl (fun _ hs => hX.later hs.below) (fun _ hs => hs) (fun _ _ => .here) (fm_length eInt_len xs) (fm_one eInt_one xs) (by omega) (by omega) ?_
  intro a2 c3
  refine Ops.q (q_asg rfl) ?_
  refine Ops.to rfl ?_
  refine Cd.rt (fn := Tryz.f66) [.slice a2 (0 + xs.length) c3] (by with_reducible repeat (first | exact rq_here | apply rq_then | apply rq_block)) rfl ⟨rfl, trivial⟩ ?_
  intro w' hs'
  rw [Nat.zero_add, List.nil_append] at hs'
  exact ⟨(a2, c3), by rw [Nat.zero_add]; rfl, hs'⟩
theorem clint_c (a : Option Addr) (c : Nat) (xs : List Int) (w : World) (hX : RoL w a eInt xs) (hl : xs.length ≤ 1000000) : Calls Tryz.prog 66 [.slice a xs.length c].toArray w fun e w' => ∃ p : Option Addr × Nat, e = .returned (.slice p.1 xs.length p.2) ∧ Sat w w' [row p.1 p.2 3 1 xs.length (xs.flatMap eInt)] := by
  cases a with
  | none =>
    obtain rfl := fm_nil eInt_len (Ro.none hX)
    exact clintn_c c w
  | some a => exact clints_c a c xs w hX hl
theorem clsttn_c (c : Nat) (w : World) : Calls Tryz.prog 65 [.slice none 0 c].toArray w fun e w' => ∃ p : Option Addr × Nat, e = .returned (.slice p.1 0 p.2) ∧ Sat w w' [row p.1 p.2 133 2 0 []] := by
  refine fstart Tryz.func65 rfl rfl (Sat.nil w) ?_
  refine Cd.seq ?_
  refine Cd.region ?_
  refine Ops.q (q_asg rfl) ?_
  refine Ops.to rfl ?_
  refine Cd.seq ?_
  refine Cd.seq ?_
  refine Cd.region ?_
  refine Ops.q (q_mv rfl) ?_
  refine Ops.q (q_nilS el_126 rfl rfl) ?_
  refine Ops.to rfl ?_
  refine Cd.cond_t rfl ?_
  refine Cd.seq ?_
  refine Cd.region ?_
  refine Ops.q (q_asg rfl) ?_
  refine Ops.to rfl ?_
  refine Cd.rt (fn := Tryz.f65) [.slice none 0 0] (by with_reducible repeat (first | exact rq_here | apply rq_then | apply rq_block)) rfl ⟨rfl, trivial⟩ ?_
  intro w' hs'
  exact ⟨(none, 0), rfl, hs'.nilRow 133 2⟩
theorem clstts_c (a : Addr) (c : Nat) (xs : List Stt) (w : World) (hX : RoL w (some a) eStt xs) (hl : xs.length ≤ 1000000) : Calls Tryz.prog 65 [.slice (some a) xs.length c].toArray w fun e w' => ∃ p : Option Addr × Nat, e = .returned (.slice p.1 xs.length p.2) ∧ Sat w w' [row p.1 p.2 133 2 xs.length (xs.flatMap eStt)] := by
  refine fstart Tryz.func65 rfl rfl (Sat.nil w) ?_
  refine Cd.seq ?_
  refine Cd.region ?_
  refine Ops.q (q_asg rfl) ?_
  refine Ops.to rfl ?_
  refine Cd.seq ?_
  refine Cd.seq ?_
  refine Cd.region ?_
  refine Ops.q (q_mv rfl) ?_
  refine Ops.q (q_nilS el_126 rfl rfl) ?_
  refine Ops.to rfl ?_
  refine Cd.cond_f rfl ?_
  refine Cd.skipTo rfl ?_
  refine Cd.seq ?_
  refine Cd.region ?_
  refine Ops.lit [] el_126 zsb_133 rfl rfl ⟨by decide, by decide⟩ rfl ?_
  intro b1
  refine Ops.q (q_mv rfl) ?_
  refine Ops.app (news := (xs.flatMap eStt)) el_126 zsb_133 (by decide) rfl rfl (fun _ hs => hX.later hs.below) (fun _ hs => hs) (fun _ _ => .here) (fm_length eStt_len xs) (fm_one eStt_one xs) (by omega) (by omega) ?_
  intro a2 c3
  refine Ops.q (q_asg rfl) ?_
  refine Ops.to rfl ?_
  refine Cd.rt (fn := Tryz.f65) [.slice a2 (0 + xs.length) c3] (by with_reducible repeat (first | exact rq_here | apply rq_then | apply rq_block)) rfl ⟨rfl, trivial⟩ ?_
  intro w' hs'
  rw [Nat.zero_add, List.nil_append] at hs'
  exact ⟨(a2, c3), by rw [Nat.zero_add]; rfl, hs'⟩
theorem clstt_c (a : Option Addr) (c : Nat) (xs : List Stt) (w : World) (hX : RoL w a eStt xs) (hl : xs.length ≤ 1000000) : Calls Tryz.prog 65 [.slice a xs.length c].toArray w fun e w' => ∃ p : Option Addr × Nat, e = .returned (.slice p.1 xs.length p.2) ∧ Sat w w' [row p.1 p.2 133 2 xs.length (xs.flatMap eStt)] := by
  cases a with
  | none =>
    obtain rfl := fm_nil eStt_len (Ro.none hX)
    exact clsttn_c c w
  | some a => exact clstts_c a c xs w hX hl
def q0 (n : Nat) (q : List (Nat × List Int)) : List Cp.RQ := q.map fun x => ((x.1, n), x.2)
theorem simA_cp {S : Nat} {na : Option Addr} {nc : Nat} {sa : Option Addr} {sc : Nat} {ns : List Prm} {ip : Int} {m M : Nat} {E : List WEnt} {now B : Nat} {sts : List Stt} {q : List (Nat × List Int)} {F : List Atom} : simA S na nc sa sc ns ip m M E now B sts q F = Cp.simA S na nc sa sc ns ip m M E now B ns.length sts (q0 ns.length q) F := by
  simp only [simA, Cp.simA, q0, List.map_map]; rfl
structure SimS where
  S : Nat
  na : Option Addr
  nc : Nat
  M : Nat
  E : List WEnt
  B : Nat
  BC : Nat
  sts : List Stt
  q : List Cp.RQ
theorem new_c (na : Option Addr) (nc : Nat) (sa : Option Addr) (sc : Nat) (ns : List Prm) (ip : Int) (ss : List Syn) (w : World) (hN : RoL w na ePrm ns) (hS : RoL w sa eSyn ss) (h0 : netCheck ⟨ns, ip, ss⟩ = 0) : Calls Tryz.prog 29 [.agg [.slice na ns.length nc, .int .i64 ip, .slice sa ss.length sc].toArray].toArray w fun e w' => ∃ x : {x : SimS // WI x.E ss ∧ x.q.length = 16 ∧ (∀ y ∈ x.q, y.2 = List.replicate ns.length 0) ∧ x.sts = List.replicate ns.length ⟨0, 0⟩}, e = .returned (.tuple [.pointer (some ⟨x.1.S, 0, none⟩), .int .i64 0].toArray) ∧ Sat w w' (Cp.simA x.1.S x.1.na x.1.nc sa sc ns ip ss.length x.1.M x.1.E 0 x.1.B x.1.BC x.1.sts x.1.q []) := by
  obtain ⟨hn0, hn1, hs1, hi0, hi1, _, hsy⟩ := netCheck_ok h0
  obtain ⟨x0, hx0⟩ : ∃ x, ns[0]? = some x := ⟨_, List.getElem?_eq_getElem hn0⟩
  obtain ⟨pb, po, rfl⟩ := RoL.pos hN ePrm_len hx0
  refine fstart Tryz.func29 rfl rfl (Sat.nil w) ?_
  refine Cd.seq ?_
  refine Cd.region ?_
  refine Ops.box [.slice (some ⟨pb, po, none⟩) ns.length nc, .int .i64 ip, .slice sa ss.length sc] rfl rfl ?_
  intro b1
  refine Ops.q (q_asg rfl) ?_
  refine Ops.q (q_asg rfl) ?_
  refine Ops.to rfl ?_
  refine Cd.seq ?_
  refine Cd.seq ?_
  refine Cd.region ?_
  refine Ops.q (q_ldBN [.slice (some ⟨pb, po, none⟩) ns.length nc, .int .i64 ip, .slice sa ss.length sc] isA_40 sz_40 rfl .here rfl) ?_
  refine Ops.cp en_23 rfl (fun w hs => by have h9 := check_c (some ⟨pb, po, none⟩) nc sa sc ns ip ss w (hN.later hs.below) (hS.later hs.below); rw [h0] at h9; exact h9) ?_
  refine Ops.q (q_asg rfl) ?_
  refine Ops.to rfl ?_
  refine Cd.seq ?_
  refine Cd.region ?_
  refine Ops.q (q_mv rfl) ?_
  refine Ops.q (q_cmp rfl rfl (c_nne (by decide))) ?_
  refine Ops.to rfl ?_
  refine Cd.cond_f rfl ?_
  refine Cd.skipTo rfl ?_
  refine Cd.seq ?_
  refine Cd.region ?_
  refine Ops.q (q_ldBN [.slice (some ⟨pb, po, none⟩) ns.length nc, .int .i64 ip, .slice sa ss.length sc] isA_40 sz_40 rfl .here rfl) ?_
  refine Ops.cl (α := {x : SimS // WI x.E ss ∧ x.q.length = 16 ∧ (∀ y ∈ x.q, y.2 = List.replicate ns.length 0) ∧ x.sts = List.replicate ns.length ⟨0, 0⟩}) (v := fun x => .pointer (some ⟨x.1.S, 0, none⟩)) (B := fun x => Cp.simA x.1.S x.1.na x.1.nc sa sc ns ip ss.length x.1.M x.1.E 0 x.1.B x.1.BC x.1.sts x.1.q []) en_63 rfl (fun w hs => (start_c pb po nc sa sc ns ip ss w (hN.later hs.below) (hS.later hs.below) (by omega) (by omega)).mono fun e w' ⟨S, na, nc', M, E, B, q, h1, h2, h3, h4, h5⟩ => ⟨⟨⟨S, na, nc', M, E, B, ns.length, List.replicate ns.length ⟨0, 0⟩, q0 ns.length q⟩, h2, (List.length_map _).trans h3, fun y hy => by obtain ⟨z, hz, rfl⟩ := List.mem_map.1 hy; exact h4 z hz, rfl⟩, h1, by rw [simA_cp] at h5; exact h5⟩) ?_
  intro x
  refine Ops.q (q_asg rfl) ?_
  refine Ops.q (q_asg rfl) ?_
  refine Ops.to rfl ?_
  refine Cd.rt (fn := Tryz.f29) [.pointer (some ⟨x.1.S, 0, none⟩), .int .i64 0] (by with_reducible repeat (first | exact rq_here | apply rq_then | apply rq_block)) rfl ⟨rfl, rfl, trivial⟩ ?_
  intro w' hs'
  exact ⟨x, rfl, dropTail hs'⟩
theorem asc_c (na : Option Addr) (nc : Nat) (sa : Option Addr) (sc : Nat) (ns : List Prm) (ip : Int) (ss : List Syn) (ia : Option Addr) (ic : Nat) (ids : List Int) (w : World) (hX : RoL w ia eInt ids) (hp : ids.Pairwise (· < ·)) (hb : ∀ i ∈ ids, 0 ≤ i ∧ i < ip) (hip : 0 ≤ ip ∧ ip ≤ 256) (hl : ids.length ≤ 1000) : Calls Tryz.prog 67 [.agg [.slice na ns.length nc, .int .i64 ip, .slice sa ss.length sc].toArray, .slice ia ids.length ic].toArray w fun e w' => e = .returned (.int .i64 0) ∧ Sat w w' [] := by
  refine fstart Tryz.func67 rfl rfl (Sat.nil w) ?_
  refine Cd.seq ?_
  refine Cd.region ?_
  refine Ops.box [.slice na ns.length nc, .int .i64 ip, .slice sa ss.length sc] rfl rfl ?_
  intro b1
  refine Ops.q (q_asg rfl) ?_
  refine Ops.to rfl ?_
  refine Cd.seq ?_
  refine Cd.seq ?_
  refine Cd.region ?_
  refine Ops.q (q_mv rfl) ?_
  refine Ops.q (q_len esz_31 rfl) ?_
  refine Ops.q (q_mv rfl) ?_
  refine Ops.to rfl ?_
  refine Cd.block ?_
  refine Cd.lp (σ := Nat) (fun k => k ≤ ids.length) (fun k => [(1, .slice ia ids.length ic), (2, .pointer (some ⟨b1, 0, none⟩)), (7, .slice ia ids.length ic), (8, .int .i64 (ids.length : Int)), (9, .int .i64 (k : Int))]) (fun k => [blk b1 40 [.slice na ns.length nc, .int .i64 ip, .slice sa ss.length sc]]) (fun k => ids.length - k) 0 (Nat.zero_le _) ⟨rfl, rfl, rfl, rfl, rfl, trivial⟩ (fun _ hs => hs) ?_
  intro k hI
  refine Cd.seq ?_
  refine Cd.region ?_
  by_cases hk : (k : Int) < (ids.length : Int)
  · refine Ops.q (q_cmp rfl rfl (c_lt hk)) ?_
    obtain ⟨x2, hx3⟩ : ∃ x, ids[k]? = some x := ⟨_, List.getElem?_eq_getElem (by omega)⟩
    obtain ⟨ab4, ao5, rfl⟩ := RoL.pos hX eInt_len hx3
    have hxb := hb x2 (List.mem_iff_getElem?.2 ⟨_, hx3⟩)
    refine Ops.to rfl ?_
    refine Cd.seq ?_
    refine Cd.cond_t rfl ?_
    refine Cd.skipTo rfl ?_
    refine Cd.seq ?_
    refine Cd.block ?_
    refine Cd.seq ?_
    refine Cd.region ?_
    refine Ops.q (q_mv rfl) ?_
    refine Ops.q (q_ix (k := k) esz_31 rfl rfl (by omega)) ?_
    refine Ops.q (q_ldR isA_3 rfl (hX.at0 eInt_len hx3 rfl)) ?_
    refine Ops.q (q_asg rfl) ?_
    refine Ops.q (q_asg rfl) ?_
    refine Ops.to rfl ?_
    refine Cd.block ?_
    refine Cd.seq ?_
    refine Cd.region ?_
    refine Ops.q (q_mv rfl) ?_
    refine Ops.q (q_fa fo_40_1 rfl) ?_
    refine Ops.q (q_ldB isA_3 rfl .here rfl) ?_
    refine Ops.q (q_ar rfl rfl (a_sub (by omega))) ?_
    refine Ops.cp en_54 rfl (fun w hs => dT (nwithin_c x2 0 (ip - 1) w) (by omega)) ?_
    refine Ops.q (q_not rfl) ?_
    refine Ops.q (q_asg rfl) ?_
    refine Ops.to rfl ?_
    refine Cd.cond_f rfl ?_
    refine Cd.seq ?_
    refine Cd.region ?_
    refine Ops.q (q_mv rfl) ?_
    by_cases hpos : 0 < (k : Int)
    · refine Ops.q (q_cmp rfl rfl (c_gt hpos)) ?_
      obtain ⟨y, hy⟩ : ∃ y, ids[k - 1]? = some y := ⟨_, List.getElem?_eq_getElem (by omega)⟩
      have hyx : y < x2 := by have h8 := List.pairwise_iff_getElem.1 hp (k - 1) k (by omega) (by omega) (by omega); rw [(List.getElem?_eq_some_iff.1 hy).2, (List.getElem?_eq_some_iff.1 hx3).2] at h8; exact h8
      refine Ops.q (q_mv rfl) ?_
      refine Ops.q (q_mv rfl) ?_
      refine Ops.q (q_mv rfl) ?_
      refine Ops.q (q_mv rfl) ?_
      refine Ops.q (q_ar (v := ((k - 1 : Nat) : Int)) rfl rfl (by rw [a_sub (by omega)]; congr 1; omega)) ?_
      refine Ops.q (q_ix (k := (k - 1)) esz_31 rfl rfl (by omega)) ?_
      refine Ops.q (q_ldR isA_3 rfl (hX.at0 eInt_len hy rfl)) ?_
      refine Ops.q (q_cmp rfl rfl (c_nle (by omega))) ?_
      refine Ops.q (q_pickT rfl rfl) ?_
      refine Ops.q (q_asg rfl) ?_
      refine Ops.to rfl ?_
      refine Cd.cond_f rfl ?_
      refine Cd.skipTo rfl ?_
      refine Cd.region ?_
      refine Ops.q (q_ar rfl rfl (a_inc (by omega))) ?_
      refine Ops.q (q_mv rfl) ?_
      refine Ops.rnd (k + 1) rfl (by omega) (by omega) ⟨rfl, rfl, rfl, rfl, rfl, trivial⟩ (fun _ hs => hs) 
    · refine Ops.q (q_cmp rfl rfl (c_ngt (by omega))) ?_
      refine Ops.q (q_mv rfl) ?_
      refine Ops.sk ?_
      refine Ops.sk ?_
      refine Ops.sk ?_
      refine Ops.sk ?_
      refine Ops.sk ?_
      refine Ops.sk ?_
      refine Ops.sk ?_
      refine Ops.q (q_pickF rfl rfl) ?_
      refine Ops.q (q_asg rfl) ?_
      refine Ops.to rfl ?_
      refine Cd.cond_f rfl ?_
      refine Cd.skipTo rfl ?_
      refine Cd.region ?_
      refine Ops.q (q_ar rfl rfl (a_inc (by omega))) ?_
      refine Ops.q (q_mv rfl) ?_
      refine Ops.rnd (k + 1) rfl (by omega) (by omega) ⟨rfl, rfl, rfl, rfl, rfl, trivial⟩ (fun _ hs => hs) 
  · refine Ops.q (q_cmp rfl rfl (c_nlt (by omega))) ?_
    refine Ops.to rfl ?_
    refine Cd.seq ?_
    refine Cd.cond_f rfl ?_
    refine Cd.exitTo rfl ?_
    refine Cd.seq ?_
    refine Cd.region ?_
    refine Ops.q (q_asg rfl) ?_
    refine Ops.to rfl ?_
    refine Cd.rt (fn := Tryz.f67) [.int .i64 0] (by with_reducible repeat (first | exact rq_here | apply rq_then | apply rq_block)) rfl ⟨rfl, trivial⟩ ?_
    intro w' hs'
    exact ⟨rfl, hs'.none⟩
end Go.Proofs.YtilcdghliigngaaGreatDoor
namespace Go.Proofs.YtilcdghliigngaaGreatDoor
open Go.RowKit Go.Proofs.YtilcdghliigngaaGreatDoorGl Go.Proofs.YtilcdghliigngaaGreatDoorPm
set_option linter.unusedVariables false
set_option linter.unusedSimpArgs false
theorem Step_c (S : Nat) (na : Option Addr) (nc : Nat) (sa : Option Addr) (sc : Nat) (ns : List Prm) (ip : Int) (ss : List Syn) (M : Nat) (E : List WEnt) (now B BC : Nat) (sts : List Stt) (q : List Cp.RQ) (F : List Atom) (ia : Option Addr) (ic : Nat) (ids : List Int) (x0 : (Nat × Nat) × List Int) (T : List (Stt × Bool)) (w0 w : World) (hn0 : 0 < ns.length) (hip : 0 ≤ ip ∧ ip ≤ 256) (hasc : ids.Pairwise (· < ·)) (hidr : ∀ i ∈ ids, 0 ≤ i ∧ i < ip) (hil : ids.length ≤ 100) (hW : WI E ss) (hss : ∀ s ∈ ss, wi s.dst 0 ((ns.length : Int) - 1) ∧ wi s.dl 1 16) (hlen : ss.length ≤ 8192) (hn : ns.length ≤ 1024) (hst : sts.length = ns.length) (hq : Cp.ringOK ns.length q) (hnow : now < 10000) (hx0 : q[now % 16]? = some x0) (hT : T = tickAll ns sts x0.2) (hs : Sat w0 w (Cp.simA S na nc sa sc ns ip ss.length M E now B BC sts q (row ia ic 3 1 ids.length (ids.flatMap eInt) :: F))) : Calls Tryz.prog 31 [.pointer (some ⟨S, 0, none⟩), .slice ia ids.length ic].toArray w fun e w' => ∃ p : Option Addr × Nat, e = .returned (.tuple [.slice p.1 (fireI 0 T).length p.2, .int .i64 0].toArray) ∧ Sat w0 w' (Cp.simA S na nc sa sc ns ip ss.length M E (now + 1) B BC (T.map (·.1)) ((metS ss (fireI 0 T) ids).foldl (Cp.addQ now) (Cp.clrQ now ns.length q)) (row p.1 p.2 3 1 (fireI 0 T).length ((fireI 0 T).flatMap eInt) :: F)) := by
  refine fstart Tryz.func31 rfl rfl hs ?_
  refine Cd.seq ?_
  refine Cd.region ?_
  refine Ops.q (q_asg rfl) ?_
  refine Ops.q (q_asg rfl) ?_
  refine Ops.to rfl ?_
  refine Cd.seq ?_
  refine Cd.block ?_
  refine Cd.seq ?_
  refine Cd.region ?_
  refine Ops.q (q_mv rfl) ?_
  refine Ops.cm (α := Unit) (v := fun _ => .bool true) (A' := fun _ => blk S 130 ([.slice na ns.length nc, .int .i64 ip, .slice sa ss.length sc, .map (some M), .int .i64 (now : Int), .slice (some ⟨B, 0, none⟩) ns.length BC] ++ q.map (Cp.rcell ns.length)) :: row (some ⟨B, 0, none⟩) BC 133 2 ns.length (sts.flatMap eStt) :: row na nc 62 8 ns.length (ns.flatMap ePrm) :: rd (wφ M E) :: row ia ic 3 1 ids.length (ids.flatMap eInt) :: (F ++ q.map (Cp.rrow ns.length))) en_64 rfl (fun w hs => (is_c S na ns.length nc ip sa ss.length sc M now B BC q w0 w _ hn0 hs).mono fun e w' h => ⟨(), h.1, h.2⟩) ?_
  intro _
  refine Ops.q (q_not rfl) ?_
  refine Ops.q (q_asg rfl) ?_
  refine Ops.to rfl ?_
  refine Cd.cond_f rfl ?_
  refine Cd.seq ?_
  refine Cd.region ?_
  refine Ops.q (q_mv rfl) ?_
  refine Ops.q (q_nck rfl) ?_
  refine Ops.q (q_fa fo_130_2 rfl) ?_
  refine Ops.q (q_ldB isA_3 rfl .here rfl) ?_
  refine Ops.q (q_cmp rfl rfl (c_nge (by omega))) ?_
  refine Ops.q (q_asg rfl) ?_
  refine Ops.to rfl ?_
  refine Cd.cond_f rfl ?_
  refine Cd.skipTo rfl ?_
  refine Cd.seq ?_
  refine Cd.seq ?_
  refine Cd.region ?_
  refine Ops.q (q_mv rfl) ?_
  refine Ops.q (q_nck rfl) ?_
  refine Ops.q (q_fa fo_130_0 rfl) ?_
  refine Ops.q (q_ldBN [.slice na ns.length nc, .int .i64 ip, .slice sa ss.length sc] isA_40 sz_40 rfl .here rfl) ?_
  refine Ops.q (q_mv rfl) ?_
  refine Ops.cp en_67 rfl (fun w hs => asc_c na nc sa sc ns ip ss ia ic ids w (hs.ownRo .p4) hasc hidr hip (by omega)) ?_
  refine Ops.q (q_asg rfl) ?_
  refine Ops.to rfl ?_
  refine Cd.seq ?_
  refine Cd.region ?_
  refine Ops.q (q_mv rfl) ?_
  refine Ops.q (q_cmp rfl rfl (c_nne (by decide))) ?_
  refine Ops.to rfl ?_
  refine Cd.cond_f rfl ?_
  refine Cd.skipTo rfl ?_
  refine Cd.seq ?_
  refine Cd.region ?_
  refine Ops.q (q_mv rfl) ?_
  refine Ops.q (q_mv rfl) ?_
  refine Ops.cm (α := Option Addr × Nat) (v := fun p => .slice p.1 (fireI 0 T).length p.2) (A' := fun p => Cp.simA S na nc sa sc ns ip ss.length M E (now + 1) B BC (T.map (·.1)) ((metS ss (fireI 0 T) ids).foldl (Cp.addQ now) (Cp.clrQ now ns.length q)) (row p.1 p.2 3 1 (fireI 0 T).length ((fireI 0 T).flatMap eInt) :: F)) en_68 rfl (fun w hs => Cp.step_c S na nc sa sc ns ip ss.length M E now B BC sts q F ia ic ids ss x0 T w0 w hW hss hlen hn hst hq hnow (fun i hi => ⟨(hidr i hi).1, by have := (hidr i hi).2; omega⟩) (by omega) hx0 hT hs) ?_
  rintro ⟨pa, pc⟩
  refine Ops.q (q_asg rfl) ?_
  refine Ops.q (q_asg rfl) ?_
  refine Ops.to rfl ?_
  refine Cd.rt (fn := Tryz.f31) [.slice pa ((fireI 0 T).length) pc, .int .i64 0] (by with_reducible repeat (first | exact rq_here | apply rq_then | apply rq_block)) rfl ⟨rfl, rfl, trivial⟩ ?_
  intro w' hs'
  exact ⟨(pa, pc), rfl, hs'⟩
theorem set_whole {α : Type} {zs vs : List α} (h : zs.length = vs.length) : zs.take 0 ++ vs ++ zs.drop (0 + vs.length) = vs := by
  rw [Nat.zero_add, ← h, List.drop_length, List.append_nil]; rfl
theorem ring_put {α : Type} {pre : List Value} {f : α → Value} {A q : List α} {k : Nat} {x y : α} (hp : pre.length = 6) (hA : A.length = k) (hx : q[k]? = some x) :
    (pre ++ (A.map f ++ (q.drop k).map f)).take (0 + 6 + k * 1) ++ [f y] ++ (pre ++ (A.map f ++ (q.drop k).map f)).drop (0 + 6 + k * 1 + [f y].length) = pre ++ ((A ++ [y]).map f ++ (q.drop (k + 1)).map f) := by
  have e1 : 0 + 6 + k * 1 = (pre ++ A.map f).length := by rw [List.length_append, List.length_map]; omega
  rw [← List.append_assoc, e1, List.take_left, List.drop_length_add_append, drop_get hx]
  simp
abbrev simO (S : Nat) (na : Option Addr) (nc : Nat) (sa : Option Addr) (sc : Nat) (ns : List Prm) (ip : Int) (m : Nat) (M : Nat) (now B BC : Nat) (sts : List Stt) (q : List Cp.RQ) : List Atom :=
  blk S 130 ([.slice na ns.length nc, .int .i64 ip, .slice sa m sc, .map (some M), .int .i64 (now : Int), .slice (some ⟨B, 0, none⟩) ns.length BC] ++ q.map (Cp.rcell ns.length)) ::
  row (some ⟨B, 0, none⟩) BC 133 2 ns.length (sts.flatMap eStt) :: q.map (Cp.rrow ns.length)
theorem ar_128 : Tryz.prog.underlying 128 = some (.array 16 31) := by kernel_rfl
theorem copy_c (S : Nat) (na : Option Addr) (nc : Nat) (sa : Option Addr) (sc : Nat) (ns : List Prm) (ip : Int) (ss : List Syn) (M : Nat) (E : List WEnt) (now B BC : Nat) (sts : List Stt) (q : List Cp.RQ) (F : List Atom) (w0 w : World) (hn0 : 0 < ns.length) (hn : ns.length ≤ 1024) (hst : sts.length = ns.length) (hq : Cp.ringOK ns.length q) (hs : Sat w0 w (Cp.simA S na nc sa sc ns ip ss.length M E now B BC sts q F)) : Calls Tryz.prog 30 [.pointer (some ⟨S, 0, none⟩)].toArray w fun e w' => ∃ x : Nat × Nat × Nat × List Cp.RQ, e = .returned (.pointer (some ⟨x.1, 0, none⟩)) ∧ x.2.2.2.map (·.2) = q.map (·.2) ∧ Sat w0 w' (Cp.simA S na nc sa sc ns ip ss.length M E now B BC sts q (simO x.1 na nc sa sc ns ip ss.length M now x.2.1 x.2.2.1 sts x.2.2.2 ++ F)) := by
  refine fstart Tryz.func30 rfl rfl hs ?_
  refine Cd.seq ?_
  refine Cd.region ?_
  refine Ops.q (q_asg rfl) ?_
  refine Ops.to rfl ?_
  refine Cd.seq ?_
  refine Cd.seq ?_
  refine Cd.region ?_
  refine Ops.q (q_mv rfl) ?_
  refine Ops.cm (α := Unit) (v := fun _ => .bool true) (A' := fun _ => blk S 130 ([.slice na ns.length nc, .int .i64 ip, .slice sa ss.length sc, .map (some M), .int .i64 (now : Int), .slice (some ⟨B, 0, none⟩) ns.length BC] ++ q.map (Cp.rcell ns.length)) :: row (some ⟨B, 0, none⟩) BC 133 2 ns.length (sts.flatMap eStt) :: row na nc 62 8 ns.length (ns.flatMap ePrm) :: rd (wφ M E) :: (F ++ q.map (Cp.rrow ns.length))) en_64 rfl (fun w hs => (is_c S na ns.length nc ip sa ss.length sc M now B BC q w0 w _ hn0 hs).mono fun e w' h => ⟨(), h.1, h.2⟩) ?_
  intro _
  refine Ops.q (q_not rfl) ?_
  refine Ops.to rfl ?_
  refine Cd.cond_f rfl ?_
  refine Cd.skipTo rfl ?_
  refine Cd.seq ?_
  refine Cd.region ?_
  refine Ops.q (q_mv rfl) ?_
  refine Ops.q (q_nck rfl) ?_
  refine Ops.q (q_ldBN ([.slice na ns.length nc, .int .i64 ip, .slice sa ss.length sc, .map (some M), .int .i64 (now : Int), .slice (some ⟨B, 0, none⟩) ns.length BC] ++ q.map (Cp.rcell ns.length)) isA_130 (by rw [List.length_append, List.length_map, hq.1]; exact sz_130) rfl .here (List.take_length)) ?_
  refine Ops.alc [.slice none 0 0, .int .i64 0, .slice none 0 0, .map none, .int .i64 0, .slice none 0 0, .slice none 0 0, .slice none 0 0, .slice none 0 0, .slice none 0 0, .slice none 0 0, .slice none 0 0, .slice none 0 0, .slice none 0 0, .slice none 0 0, .slice none 0 0, .slice none 0 0, .slice none 0 0, .slice none 0 0, .slice none 0 0, .slice none 0 0, .slice none 0 0] zc_130 ?_
  intro b1
  refine Ops.stB ([.slice na ns.length nc, .int .i64 ip, .slice sa ss.length sc, .map (some M), .int .i64 (now : Int), .slice (some ⟨B, 0, none⟩) ns.length BC] ++ q.map (Cp.rcell ns.length)) ([.slice na ns.length nc, .int .i64 ip, .slice sa ss.length sc, .map (some M), .int .i64 (now : Int), .slice (some ⟨B, 0, none⟩) ns.length BC] ++ q.map (Cp.rcell ns.length)) (by rw [List.length_append, List.length_map, hq.1]; exact sz_130) rfl rfl rfl (fun u hu => by rcases List.mem_append.1 hu with hu | hu; (· exact one rfl u hu); (· obtain ⟨x, _, rfl⟩ := List.mem_map.1 hu; rfl)) .here (ble_ok (by rw [List.length_append, List.length_map, hq.1]; exact Nat.le_refl _)) (set_whole (by rw [List.length_append, List.length_map, hq.1]; rfl)) ?_
  refine Ops.to rfl ?_
  refine Cd.seq ?_
  refine Cd.region ?_
  refine Ops.q (q_mv rfl) ?_
  refine Ops.q (q_nck rfl) ?_
  refine Ops.q (q_fa fo_130_3 rfl) ?_
  refine Ops.q (q_ldB isA_126 rfl (.there .here) rfl) ?_
  refine Ops.cl (α := Option Addr × Nat) (v := fun p => .slice p.1 ns.length p.2) (B := fun p => [row p.1 p.2 133 2 ns.length (sts.flatMap eStt)]) en_65 rfl (fun w hs => by have h9 := clstt_c (some ⟨B, 0, none⟩) BC sts w (hs.ownRo .p2) (by omega); rw [hst] at h9; exact h9) ?_
  rintro ⟨ba, bc⟩
  refine Ops.rowpos .here hn0 ?_
  rintro bb h9
  dsimp only at h9
  subst h9
  refine Ops.q (q_fa fo_130_3 rfl) ?_
  refine Ops.stB [.slice (some ⟨bb, 0, none⟩) ns.length bc] ([.slice na ns.length nc, .int .i64 ip, .slice sa ss.length sc, .map (some M), .int .i64 (now : Int), .slice (some ⟨bb, 0, none⟩) ns.length bc] ++ q.map (Cp.rcell ns.length)) sz_126 rfl rfl rfl (one rfl) (.there .here) (ble_ok (by simp)) rfl ?_
  refine Ops.to rfl ?_
  refine Cd.seq ?_
  refine Cd.seq ?_
  refine Cd.region ?_
  refine Ops.q (q_mv rfl) ?_
  refine Ops.q (q_nck rfl) ?_
  refine Ops.q (q_fa fo_130_4 rfl) ?_
  refine Ops.q (q_ldBN (q.map (Cp.rcell ns.length)) isA_128 (by rw [List.length_map, hq.1]; exact sz_128) rfl .p2 (List.take_length)) ?_
  refine Ops.q (q_mv rfl) ?_
  refine Ops.to rfl ?_
  refine Cd.block ?_
  refine Cd.lp (σ := List Cp.RQ) (fun z => z.length ≤ 16 ∧ z.map (·.2) = (q.take z.length).map (·.2)) (fun z => [(3, .pointer (some ⟨b1, 0, none⟩)), (21, .agg (q.map (Cp.rcell ns.length)).toArray), (22, .int .i64 (z.length : Int))]) (fun z => blk b1 130 ([.slice na ns.length nc, .int .i64 ip, .slice sa ss.length sc, .map (some M), .int .i64 (now : Int), .slice (some ⟨bb, 0, none⟩) ns.length bc] ++ (z.map (Cp.rcell ns.length) ++ (q.drop z.length).map (Cp.rcell ns.length))) :: row (some ⟨bb, 0, none⟩) bc 133 2 ns.length (sts.flatMap eStt) :: blk S 130 ([.slice na ns.length nc, .int .i64 ip, .slice sa ss.length sc, .map (some M), .int .i64 (now : Int), .slice (some ⟨B, 0, none⟩) ns.length BC] ++ q.map (Cp.rcell ns.length)) :: row (some ⟨B, 0, none⟩) BC 133 2 ns.length (sts.flatMap eStt) :: row na nc 62 8 ns.length (ns.flatMap ePrm) :: rd (wφ M E) :: (z.map (Cp.rrow ns.length) ++ (F ++ q.map (Cp.rrow ns.length)))) (fun z => 16 - z.length) [] ⟨by decide, rfl⟩ ⟨rfl, rfl, rfl, trivial⟩ (fun _ hs => ((((((hs.pull .p5).pull .p5).pull .p5).pull .p5).pull .p4).pull .p5)) ?_
  intro z hI
  obtain ⟨hI1, hI2⟩ := hI
  refine Cd.seq ?_
  refine Cd.region ?_
  by_cases hk : (z.length : Int) < 16
  · refine Ops.q (q_cmp rfl rfl (c_lt hk)) ?_
    obtain ⟨x2, hx3⟩ : ∃ x, q[z.length]? = some x := ⟨_, List.getElem?_eq_getElem (by have := hq.1; omega)⟩
    have hxl := hq.2 x2 (List.mem_iff_getElem?.2 ⟨_, hx3⟩)
    refine Ops.to rfl ?_
    refine Cd.seq ?_
    refine Cd.cond_t rfl ?_
    refine Cd.skipTo rfl ?_
    refine Cd.seq ?_
    refine Cd.block ?_
    refine Cd.seq ?_
    refine Cd.region ?_
    refine Ops.q (q_mv rfl) ?_
    refine Ops.q (q_ixV (k := z.length) (v := .slice (some ⟨x2.1.1, 0, none⟩) ns.length x2.1.2) ar_128 sz_31 isA_31 rfl rfl (by omega) (by rw [List.getElem?_map, hx3]; rfl)) ?_
    refine Ops.q (q_asg rfl) ?_
    refine Ops.q (q_asg rfl) ?_
    refine Ops.to rfl ?_
    refine Cd.region ?_
    refine Ops.q (q_mv rfl) ?_
    refine Ops.q (q_mv rfl) ?_
    refine Ops.cl (α := Option Addr × Nat) (v := fun p => .slice p.1 ns.length p.2) (B := fun p => [row p.1 p.2 3 1 ns.length (x2.2.flatMap eInt)]) en_66 rfl (fun w hs => by have h9 := clint_c (some ⟨x2.1.1, 0, none⟩) x2.1.2 x2.2 w (hs.ownRo (.there (.there (.there (.there (.there (.there (Pull.right (Pull.right (pull_get (f := Cp.rrow ns.length) hx3) F) (z.map (Cp.rrow ns.length)))))))))) (by omega); rw [hxl] at h9; exact h9) ?_
    rintro ⟨ra, rc⟩
    refine Ops.rowpos .here hn0 ?_
    rintro rb h9
    dsimp only at h9
    subst h9
    refine Ops.q (q_fa fo_130_4 rfl) ?_
    refine Ops.q (q_ixA (k := z.length) asz_128 rfl rfl (by omega)) ?_
    refine Ops.stB [.slice (some ⟨rb, 0, none⟩) ns.length rc] ([.slice na ns.length nc, .int .i64 ip, .slice sa ss.length sc, .map (some M), .int .i64 (now : Int), .slice (some ⟨bb, 0, none⟩) ns.length bc] ++ ((z ++ [((rb, rc), x2.2)]).map (Cp.rcell ns.length) ++ (q.drop (z.length + 1)).map (Cp.rcell ns.length))) sz_31 rfl rfl rfl (one rfl) (.there .here) (ble_ok (by rw [List.length_append, List.length_append, List.length_map, List.length_map, List.length_drop, hq.1]; show 0 + 6 + z.length * 1 + 1 ≤ 6 + (z.length + (16 - z.length)); omega)) (ring_put (f := Cp.rcell ns.length) (y := ((rb, rc), x2.2)) rfl rfl hx3) ?_
    refine Ops.to rfl ?_
    refine Cd.region ?_
    refine Ops.q (q_ar rfl rfl (a_inc (by omega))) ?_
    refine Ops.q (q_mv rfl) ?_
    refine Ops.rnd (z ++ [((rb, rc), x2.2)]) rfl (⟨by simp; omega, by rw [List.map_append, List.length_append, hI2, show z.length + [((rb, rc), x2.2)].length = z.length + 1 from rfl, take_get hx3, List.map_append]; rfl⟩) (by simp; omega) ⟨rfl, rfl, (by rw [List.length_append]; rfl), trivial⟩ (fun _ hs => by rw [List.length_append, show z.length + [((rb, rc), x2.2)].length = z.length + 1 from rfl]; exact Sat.push (a := Cp.rrow ns.length ((rb, rc), x2.2)) ((((((((hs.pull .p6).pull .p6).pull .p6).pull .p6).pull .p6).pull .p6).pull .p6)) (.there (.there (.there (.there (.there (.there (Pull.left pull_last _)))))))) 
  · refine Ops.q (q_cmp rfl rfl (c_nlt (by omega))) ?_
    have hz16 : z.length = 16 := by omega
    refine Ops.to rfl ?_
    refine Cd.seq ?_
    refine Cd.cond_f rfl ?_
    refine Cd.exitTo rfl ?_
    refine Cd.seq ?_
    refine Cd.region ?_
    refine Ops.q (q_asg rfl) ?_
    refine Ops.to rfl ?_
    refine Cd.rt (fn := Tryz.f30) [.pointer (some ⟨b1, 0, none⟩)] (by with_reducible repeat (first | exact rq_here | apply rq_then | apply rq_block)) rfl ⟨rfl, trivial⟩ ?_
    intro w' hs'
    have e0 : q.drop z.length = [] := List.drop_of_length_le (by rw [hq.1]; omega)
    rw [e0, show z.map (Cp.rcell ns.length) ++ ([] : List Cp.RQ).map (Cp.rcell ns.length) = z.map (Cp.rcell ns.length) from List.append_nil _] at hs'
    rw [List.take_of_length_le (by rw [hq.1]; omega)] at hI2
    have h1 := ((((((hs'.pull (.there .here)).pull (.there .here)).pull .p5).pull .p5).pull .p5).pull .p5)
    refine ⟨⟨b1, bb, bc, z⟩, rfl, hI2, ?_⟩
    rw [Cp.simA, simO, List.cons_append, List.cons_append, List.append_assoc]
    exact h1
end Go.Proofs.YtilcdghliigngaaGreatDoor
