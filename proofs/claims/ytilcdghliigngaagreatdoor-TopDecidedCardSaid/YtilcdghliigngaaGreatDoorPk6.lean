/- Part of a claim: the program logic, the contracts of the functions, their models. No condition. -/
import Derived.WalkKit
import Derived.OwnWalkIn
import Derived.TacticsInMore
import Derived.OrdersIn
import Derived.RangeFuncLeaves
import Derived.RangeFuncNested
import Derived.Maps.AppendAt
import Derived.Shelf.Abstract
import Derived.MapKept
import Derived.Laws.StructEq
import Derived.Laws.OwnMore
import Derived.RangeFuncRecord
import Derived.Lib.SliceRun
import Derived.Lib.AppendZeros
import Derived.Lib.AppendZerosOnto
import Derived.Lib.Overlaps
import Derived.Laws.Externs
import Derived.Maps.RangeRun
import Derived.Lib.AppendStr
import Derived.Laws.Pointers
import Derived.Laws.Small
import Derived.Laws.IdiomStrings
import Derived.Laws.Slices
import Derived.Test.YtilcdghliigngaaGreatDoorProg
import Derived.Lib.SmallJoins
import Derived.SizedLaws
import Derived.Deep.Slices
import Derived.OpenShut
import Derived.Test.YtilcdghliigngaaGreatDoorPk5
namespace Go.Proofs.YtilcdghliigngaaGreatDoor
open Go.RowKit Go.Proofs.YtilcdghliigngaaGreatDoorGl Go.Proofs.YtilcdghliigngaaGreatDoorPm
set_option linter.unusedVariables false
set_option linter.unusedSimpArgs false
theorem u_4 : Tryz.prog.underlying 4 = some .bool := by kernel_rfl
theorem wlL_get {nx : List (List Int)} {st : Int} {ws : List Int} {n i : Nat} (h : i < n) : (wlL nx st ws n)[i]? = some ((wN nx st ws i : Nat) : Int) := by simp [wlL, h]
section
variable {nx : List (List Int)} {st : Int} {acc : List Bool} {ws : List Int} {k : Nat} (hA : AutOK nx st acc ws k)
include hA
theorem acc_lt {i : Nat} : wN nx st ws i < acc.length := by rw [hA.acc]; exact hA.wN_lt i
theorem acc_get {i : Nat} : acc[wN nx st ws i]? = some (accAt nx st acc ws i) := by
  have := acc_lt hA (i := i)
  unfold accAt
  simp [List.getD, this]
end
theorem topDecided_c (a b d m : Int) (ta wa : Option Addr) (tc wc : Nat) (bs cs5 : List Int) (S K : Nat) (w0 : World) (hS : (S : Int) = 1 + a % 4) (hK : (K : Int) = 1 + b % 3) (ha : 0 ≤ a ∧ a ≤ 255) (hb : 0 ≤ b ∧ b ≤ 255) (hd : 0 ≤ d ∧ d ≤ 255) (hm : 0 ≤ m) (hbs : ∀ x ∈ bs, 0 ≤ x ∧ x ≤ 255) (hcs : ∀ x ∈ cs5, 0 ≤ x ∧ x ≤ 255) (hT : RoL w0 ta eU8 bs) (hW : RoL w0 wa eU8 cs5) : Calls Tryz.prog 3 [.agg [.int .u8 a, .int .u8 b, .slice ta bs.length tc, .int .u8 d, .int .u64 m, .slice wa cs5.length wc].toArray].toArray w0 fun e w' => e = .returned (.bool true) ∧ Sat w0 w' [] := by
  refine fstart Tryz.func3 rfl rfl (Sat.nil w0) ?_
  refine Cd.seq ?_
  refine Cd.region ?_
  have hSb : 1 ≤ S ∧ S ≤ 4 := by omega
  have hKb : 1 ≤ K ∧ K ≤ 3 := by omega
  have hA := table_ok (m := m) hSb hKb hd.1 hbs hcs
  have hwl := wordX_len cs5 K
  have hsk : S * K ≤ 4 * 3 := Nat.mul_le_mul hSb.2 hKb.2
  have hxl := autX_len bs S K
  have hnn : (autN (autX bs S K) (d % (S : Int)) (accL m S) K).ns.length = (autX bs S K).length + (autX bs S K).length * K + 1 := AutOK.nlen
  have hsk2 : (autX bs S K).length * K ≤ 4 * 3 := by rw [hxl]; exact hsk
  refine Ops.box [.int .u8 a, .int .u8 b, .slice ta bs.length tc, .int .u8 d, .int .u64 m, .slice wa cs5.length wc] rfl rfl ?_
  intro b1
  refine Ops.q (q_asg rfl) ?_
  refine Ops.to rfl ?_
  refine Cd.cutE (β := {p : Option Addr × Nat × List NL × Option Addr × Nat // p.2.2.1.map (fun l : NL => l.2) = autX bs S K} × Nat × Option Addr × Nat) (fun bb => [(1, .pointer (some ⟨b1, 0, none⟩)), (2, .bool false), (3, .pointer (some ⟨bb.2.1, 0, none⟩)), (4, .slice bb.2.2.1 ((wordX cs5 K).length) bb.2.2.2)]) (fun bb => [blk bb.2.1 29 [.slice bb.1.1.1 S bb.1.1.2.1, .int .i64 (d % (S : Int)), .slice bb.1.1.2.2.2.1 S bb.1.1.2.2.2.2], rd (AutF bb.1.1.1 bb.1.1.2.2.2.1 bb.1.1.2.2.1 (accL m S)), row bb.2.2.1 bb.2.2.2 3 1 ((wordX cs5 K).length) ((wordX cs5 K).flatMap eInt), blk b1 25 [.int .u8 a, .int .u8 b, .slice ta bs.length tc, .int .u8 d, .int .u64 m, .slice wa cs5.length wc]]) ?_ ?_
  · refine Cd.draw rfl (by kernel_rfl) (.cons .here .nil) ?_
    intro F2 St3 hP4 hF5 hR6
    refine Dr.q (i := 0) hP4 rfl (by kernel_rfl) (q_ldBN [.int .u8 a, .int .u8 b, .slice ta bs.length tc, .int .u8 d, .int .u64 m, .slice wa cs5.length wc] isA_25 sz_25 rfl .here rfl) ?_
    refine Dr.q (i := 2) hP4 rfl (by kernel_rfl) (q_ldBN [.int .u8 a, .int .u8 b, .slice ta bs.length tc, .int .u8 d, .int .u64 m, .slice wa cs5.length wc] isA_25 sz_25 rfl .here rfl) ?_
    refine Dr.e2 (i := 1) (j := 4) rfl rfl (by kernel_rfl) ?_ ?_
    · refine Ops.cl (α := {p : Option Addr × Nat × List NL × Option Addr × Nat // p.2.2.1.map (fun l : NL => l.2) = autX bs S K}) (v := fun p => .agg [.slice p.1.1 S p.1.2.1, .int .i64 (d % (S : Int)), .slice p.1.2.2.2.1 S p.1.2.2.2.2].toArray) (B := fun p => [rd (AutF p.1.1 p.1.2.2.2.1 p.1.2.2.1 (accL m S))]) en_4 rfl (fun w hs => (auto_c a b d m ta wa tc wc bs cs5 S K w hS hK ha hb hd hm hbs (hT.later hs.below)).mono fun e w' ⟨p, h1, h2, h3⟩ => ⟨⟨p, h2⟩, h1, h3⟩) ?_
      rintro ⟨⟨pa, pc, ls, aa, ac⟩, hz⟩
      dsimp only at hz
      refine Dr.back (fun _ hs => hF5 (.there .here) hs) ?_
      refine Dr.e2 (i := 3) (j := 4) rfl rfl (by kernel_rfl) ?_ ?_
      · refine Ops.cl (α := Option Addr × Nat) (v := fun p => .slice p.1 (wordX cs5 K).length p.2) (B := fun p => [row p.1 p.2 3 1 (wordX cs5 K).length ((wordX cs5 K).flatMap eInt)]) en_5 rfl (fun w hs => tword_c a b d m ta wa bs.length tc wc cs5 K w hK hb hcs (hW.later hs.below)) ?_
        rintro ⟨wb, wd⟩
        refine Dr.back (fun _ hs => hF5 .p2 hs) ?_
        refine Dr.e (i := 4) rfl (by kernel_rfl) ?_
        refine Ops.alc [.slice none 0 0, .int .i64 0, .slice none 0 0] zc_29 ?_
        intro b7
        refine Dr.back (fun _ hs => hF5 .p3 hs) ?_
        refine Dr.e (i := 5) rfl (by kernel_rfl) ?_
        refine Ops.stB [.slice pa S pc, .int .i64 (d % (S : Int)), .slice aa S ac] [.slice pa S pc, .int .i64 (d % (S : Int)), .slice aa S ac] sz_29 rfl rfl rfl (one rfl) .here rfl rfl ?_
        refine Dr.back (fun _ hs => hF5 .p3 hs) ?_
        refine Dr.tail 6 (by kernel_rfl) ?_
        refine Ops.sat ?_ (fun _ hs => hR6 .p3 hs)
        refine Ops.q (q_asg rfl) ?_
        exact Ops.cutEndE (⟨(pa, pc, ls, aa, ac), hz⟩, b7, wb, wd) rfl ⟨rfl, rfl, rfl, rfl, trivial⟩ (fun _ hs => ((((hs.pull .here).pull .p2).pull .p3).pull .p3))
      · refine Ops.alc [.slice none 0 0, .int .i64 0, .slice none 0 0] zc_29 ?_
        intro b8
        refine Dr.back (fun _ hs => hF5 .p2 hs) ?_
        refine Dr.e (i := 3) rfl (by kernel_rfl) ?_
        refine Ops.cl (α := Option Addr × Nat) (v := fun p => .slice p.1 (wordX cs5 K).length p.2) (B := fun p => [row p.1 p.2 3 1 (wordX cs5 K).length ((wordX cs5 K).flatMap eInt)]) en_5 rfl (fun w hs => tword_c a b d m ta wa bs.length tc wc cs5 K w hK hb hcs (hW.later hs.below)) ?_
        rintro ⟨wb, wd⟩
        refine Dr.back (fun _ hs => hF5 .p3 hs) ?_
        refine Dr.e (i := 5) rfl (by kernel_rfl) ?_
        refine Ops.stB [.slice pa S pc, .int .i64 (d % (S : Int)), .slice aa S ac] [.slice pa S pc, .int .i64 (d % (S : Int)), .slice aa S ac] sz_29 rfl rfl rfl (one rfl) (.there .here) rfl rfl ?_
        refine Dr.back (fun _ hs => hF5 .p3 hs) ?_
        refine Dr.tail 6 (by kernel_rfl) ?_
        refine Ops.sat ?_ (fun _ hs => hR6 .p3 hs)
        refine Ops.q (q_asg rfl) ?_
        exact Ops.cutEndE (⟨(pa, pc, ls, aa, ac), hz⟩, b8, wb, wd) rfl ⟨rfl, rfl, rfl, rfl, trivial⟩ (fun _ hs => ((((hs.pull .here).pull (.there .here)).pull .p3).pull .p3))
    · refine Ops.alc [.slice none 0 0, .int .i64 0, .slice none 0 0] zc_29 ?_
      intro b9
      refine Dr.back (fun _ hs => hF5 (.there .here) hs) ?_
      refine Dr.e (i := 1) rfl (by kernel_rfl) ?_
      refine Ops.cl (α := {p : Option Addr × Nat × List NL × Option Addr × Nat // p.2.2.1.map (fun l : NL => l.2) = autX bs S K}) (v := fun p => .agg [.slice p.1.1 S p.1.2.1, .int .i64 (d % (S : Int)), .slice p.1.2.2.2.1 S p.1.2.2.2.2].toArray) (B := fun p => [rd (AutF p.1.1 p.1.2.2.2.1 p.1.2.2.1 (accL m S))]) en_4 rfl (fun w hs => (auto_c a b d m ta wa tc wc bs cs5 S K w hS hK ha hb hd hm hbs (hT.later hs.below)).mono fun e w' ⟨p, h1, h2, h3⟩ => ⟨⟨p, h2⟩, h1, h3⟩) ?_
      rintro ⟨⟨pa, pc, ls, aa, ac⟩, hz⟩
      dsimp only at hz
      refine Dr.back (fun _ hs => hF5 .p2 hs) ?_
      refine Dr.e (i := 3) rfl (by kernel_rfl) ?_
      refine Ops.cl (α := Option Addr × Nat) (v := fun p => .slice p.1 (wordX cs5 K).length p.2) (B := fun p => [row p.1 p.2 3 1 (wordX cs5 K).length ((wordX cs5 K).flatMap eInt)]) en_5 rfl (fun w hs => tword_c a b d m ta wa bs.length tc wc cs5 K w hK hb hcs (hW.later hs.below)) ?_
      rintro ⟨wb, wd⟩
      refine Dr.back (fun _ hs => hF5 .p3 hs) ?_
      refine Dr.e (i := 5) rfl (by kernel_rfl) ?_
      refine Ops.stB [.slice pa S pc, .int .i64 (d % (S : Int)), .slice aa S ac] [.slice pa S pc, .int .i64 (d % (S : Int)), .slice aa S ac] sz_29 rfl rfl rfl (one rfl) .p2 rfl rfl ?_
      refine Dr.back (fun _ hs => hF5 .p3 hs) ?_
      refine Dr.tail 6 (by kernel_rfl) ?_
      refine Ops.sat ?_ (fun _ hs => hR6 .p3 hs)
      refine Ops.q (q_asg rfl) ?_
      exact Ops.cutEndE (⟨(pa, pc, ls, aa, ac), hz⟩, b9, wb, wd) rfl ⟨rfl, rfl, rfl, rfl, trivial⟩ (fun _ hs => ((((hs.pull .here).pull (.there .here)).pull .p2).pull .p3))
  · rintro ⟨⟨⟨pa, pc, ls, aa, ac⟩, hz⟩, b3, wb, wd⟩
    dsimp only at hz
    change Cd _ _ _ _ _ _ _ [(1, .pointer (some ⟨b1, 0, none⟩)), (2, .bool false), (3, .pointer (some ⟨b3, 0, none⟩)), (4, .slice wb ((wordX cs5 K).length) wd)] ([blk b3 29 [.slice pa S pc, .int .i64 (d % (S : Int)), .slice aa S ac], rd (AutF pa aa ls (accL m S)), row wb wd 3 1 ((wordX cs5 K).length) ((wordX cs5 K).flatMap eInt), blk b1 25 [.int .u8 a, .int .u8 b, .slice ta bs.length tc, .int .u8 d, .int .u64 m, .slice wa cs5.length wc]])
    have hzl : ls.length = S := by have := congrArg List.length hz; rw [autX_len] at this; simpa using this
    cases hA9 : accP (autX bs S K) (d % (S : Int)) (accL m S) (wordX cs5 K)
    · refine Cd.seq ?_
      refine Cd.region ?_
      refine Ops.q (q_ldBN [.slice pa S pc, .int .i64 (d % (S : Int)), .slice aa S ac] isA_29 sz_29 rfl .here rfl) ?_
      refine Ops.q (q_mv rfl) ?_
      refine Ops.cp (v := .tuple [.int .i64 (-1), .int .i64 0].toArray) en_6 rfl ?_ ?_
      · intro w hs
        have h9 := decided_c pa pc ls (d % (S : Int)) aa ac (accL m S) wb wd (wordX cs5 K) K (autX bs S K) w hz hA (by rw [autX_len]; omega) (by omega) (by have := wordX_len cs5 K; omega) (hs.read (.there .here)).1 (hs.read (.there .here)).2 (hs.ownRo .p2)
        rw [hA9, hzl, accL_len] at h9
        exact h9
      refine Ops.q (q_mv rfl) ?_
      refine Ops.q (q_ext rfl rfl) ?_
      refine Ops.q (q_ext rfl rfl) ?_
      refine Ops.q (q_asg rfl) ?_
      refine Ops.q (q_asg rfl) ?_
      refine Ops.to rfl ?_
      refine Cd.seq ?_
      refine Cd.region ?_
      refine Ops.q (q_ldBN [.slice pa S pc, .int .i64 (d % (S : Int)), .slice aa S ac] isA_29 sz_29 rfl .here rfl) ?_
      refine Ops.q (q_mv rfl) ?_
      refine Ops.cl (α := Option Addr × Nat) (v := fun p => .slice p.1 ((wordX cs5 K).length + 1) p.2) (B := fun p => [row p.1 p.2 3 1 ((wordX cs5 K).length + 1) ((wlL (autX bs S K) (d % (S : Int)) (wordX cs5 K) ((wordX cs5 K).length + 1)).flatMap eInt)]) en_7 rfl (fun w hs => by have h9 := reached_c pa pc ls (d % (S : Int)) aa ac (accL m S) wb wd (wordX cs5 K) K (autX bs S K) w hz hA (by have := wordX_len cs5 K; omega) (hs.read (.there .here)).1 (hs.ownRo .p2); rw [hzl, accL_len] at h9; exact h9) ?_
      rintro ⟨ra, rc⟩
      refine Ops.rowpos .here (by omega) ?_
      rintro rb h9
      dsimp only at h9
      subst h9
      refine Ops.q (q_asg rfl) ?_
      refine Ops.to rfl ?_
      refine Cd.seq ?_
      refine Cd.region ?_
      refine Ops.q (q_asg rfl) ?_
      refine Ops.to rfl ?_
      refine Cd.seq ?_
      refine Cd.seq ?_
      refine Cd.xpos (a := aa) (cs := (accL m S).flatMap eBool) (fun w hs => (hs.read .p2).2) (fm_pos eBool_len (acc_get (hA := hA) (i := 0))) ?_
      rintro ab ao rfl
      refine Cd.draw rfl (by kernel_rfl) (.cons .here (.cons .here (.cons .here .nil))) ?_
      intro F10 St11 hP12 hF13 hR14
      refine Dr.q (i := 0) hP12 rfl (by kernel_rfl) (q_fa fo_29_2 rfl) ?_
      refine Dr.q (i := 1) hP12 rfl (by kernel_rfl) (q_ldB isA_27 rfl (.there .here) rfl) ?_
      refine Dr.q (i := 2) hP12 rfl (by kernel_rfl) (q_mv rfl) ?_
      refine Dr.q (i := 3) hP12 rfl (by kernel_rfl) (q_mv rfl) ?_
      refine Dr.q (i := 4) hP12 rfl (by kernel_rfl) (q_len esz_31 rfl) ?_
      refine Dr.q (i := 5) hP12 rfl (by kernel_rfl) (q_ar (v := (((wordX cs5 K).length : Nat) : Int)) rfl rfl (by rw [a_sub (by omega)]; congr 1; omega)) ?_
      refine Dr.q (i := 6) hP12 rfl (by kernel_rfl) (q_ix (k := ((wordX cs5 K).length)) esz_31 rfl rfl (by omega)) ?_
      refine Dr.q (i := 7) hP12 rfl (by kernel_rfl) (q_ldO (v := .int .i64 ((wN (autX bs S K) (d % (S : Int)) (wordX cs5 K) (wordX cs5 K).length : Nat) : Int)) isA_3 rfl .here (fm_at0 eInt_len (wlL_get (by omega)) rfl)) ?_
      refine Dr.q (i := 8) hP12 rfl (by kernel_rfl) (q_ix (k := (wN (autX bs S K) (d % (S : Int)) (wordX cs5 K) ((wordX cs5 K).length))) esz_27 rfl rfl (by have := acc_lt hA (i := (wordX cs5 K).length); rw [accL_len] at this; exact this)) ?_
      refine Dr.q (i := 9) hP12 rfl (by kernel_rfl) (q_ld (v := .bool false) isA_4 rfl (fun w hs => by have h8 := acc_get (hA := hA) (i := (wordX cs5 K).length); rw [← accP_at, hA9] at h8; exact RoL.at0 (hs.read .p2).2 eBool_len h8 rfl)) ?_
      refine Dr.tail 10 (by kernel_rfl) ?_
      refine Ops.sat ?_ (fun _ hs => hR14 .here hs)
      refine Ops.to rfl ?_
      refine Cd.cond_f rfl ?_
      refine Cd.skipTo rfl ?_
      refine Cd.seq ?_
      refine Cd.seq ?_
      refine Cd.region ?_
      refine Ops.q (q_mv rfl) ?_
      refine Ops.q (q_cmp rfl rfl (c_nne (by decide))) ?_
      refine Ops.q (q_mv rfl) ?_
      refine Ops.q (q_mv rfl) ?_
      refine Ops.q (q_mv rfl) ?_
      refine Ops.q (q_cmp rfl rfl (c_nne (by decide))) ?_
      refine Ops.q (q_pickF rfl rfl) ?_
      refine Ops.to rfl ?_
      refine Cd.cond_f rfl ?_
      refine Cd.skipTo rfl ?_
      refine Cd.seq ?_
      refine Cd.region ?_
      refine Ops.q (q_ldBN [.slice pa S pc, .int .i64 (d % (S : Int)), .slice (some ⟨ab, ao, none⟩) S ac] isA_29 sz_29 rfl (.there .here) rfl) ?_
      refine Ops.cl (α := (Option Addr × Nat) × (Option Addr × Nat)) (v := fun x => .tuple [.agg [.slice x.1.1 (autN (autX bs S K) (d % (S : Int)) (accL m S) K).ns.length x.1.2, .int .i64 (autN (autX bs S K) (d % (S : Int)) (accL m S) K).inp, .slice x.2.1 (autN (autX bs S K) (d % (S : Int)) (accL m S) K).ss.length x.2.2].toArray, .int .i64 0].toArray) (B := fun x => [row x.1.1 x.1.2 62 8 (autN (autX bs S K) (d % (S : Int)) (accL m S) K).ns.length ((autN (autX bs S K) (d % (S : Int)) (accL m S) K).ns.flatMap ePrm), row x.2.1 x.2.2 109 4 (autN (autX bs S K) (d % (S : Int)) (accL m S) K).ss.length ((autN (autX bs S K) (d % (S : Int)) (accL m S) K).ss.flatMap eSyn)]) en_8 rfl (fun w hs => by have h9 := mach_q (nc := pc) (ac := ac) hz hA (hs.read .p2).1 (hs.read .p2).2; rw [hzl, accL_len] at h9; exact h9) ?_
      rintro ⟨⟨qa, qc⟩, ⟨ya, yc⟩⟩
      refine Ops.q (q_mv rfl) ?_
      refine Ops.q (q_ext rfl rfl) ?_
      refine Ops.q (q_ext rfl rfl) ?_
      refine Ops.alc [.slice none 0 0, .int .i64 0, .slice none 0 0] zc_40 ?_
      intro b15
      refine Ops.stB [.slice qa ((autN (autX bs S K) (d % (S : Int)) (accL m S) K).ns.length) qc, .int .i64 ((autN (autX bs S K) (d % (S : Int)) (accL m S) K).inp), .slice ya ((autN (autX bs S K) (d % (S : Int)) (accL m S) K).ss.length) yc] [.slice qa ((autN (autX bs S K) (d % (S : Int)) (accL m S) K).ns.length) qc, .int .i64 ((autN (autX bs S K) (d % (S : Int)) (accL m S) K).inp), .slice ya ((autN (autX bs S K) (d % (S : Int)) (accL m S) K).ss.length) yc] sz_40 rfl rfl rfl (one rfl) .here rfl rfl ?_
      refine Ops.q (q_asg rfl) ?_
      refine Ops.to rfl ?_
      refine Cd.seq ?_
      refine Cd.region ?_
      refine Ops.q (q_ldBN [.slice pa S pc, .int .i64 (d % (S : Int)), .slice (some ⟨ab, ao, none⟩) S ac] isA_29 sz_29 rfl .p4 rfl) ?_
      refine Ops.q (q_mv rfl) ?_
      refine Ops.cl (α := Option Addr × Nat) (v := fun x => .tuple [.slice x.1 (evA (wordX cs5 K) K).length x.2, .int .i64 0].toArray) (B := fun x => [row x.1 x.2 70 2 (evA (wordX cs5 K) K).length ((evA (wordX cs5 K) K).flatMap eEvt)]) en_9 rfl (fun w hs => by have h9 := word_q (aa := (some ⟨ab, ao, none⟩)) (nc := pc) (ac := ac) (acc := (accL m S)) (wc := wd) hz hA (by have := wordX_len cs5 K; omega) (hs.read .p5).1 (hs.ownRo .p6); rw [hzl, accL_len] at h9; exact h9) ?_
      rintro ⟨ea, ec⟩
      refine Ops.rowpos .here (by rw [evA_len]; omega) ?_
      rintro eb h9
      dsimp only at h9
      subst h9
      refine Ops.q (q_mv rfl) ?_
      refine Ops.q (q_ext rfl rfl) ?_
      refine Ops.q (q_ext rfl rfl) ?_
      refine Ops.q (q_asg rfl) ?_
      refine Ops.q (q_asg rfl) ?_
      refine Ops.to rfl ?_
      refine Cd.seq ?_
      refine Cd.region ?_
      refine Ops.q (q_asg rfl) ?_
      refine Ops.to rfl ?_
      refine Cd.seq ?_
      refine Cd.seq ?_
      refine Cd.region ?_
      refine Ops.q (q_mv rfl) ?_
      refine Ops.q (q_len esz_31 rfl) ?_
      refine Ops.q (q_ar (v := (((wordX cs5 K).length : Nat) : Int)) rfl rfl (by rw [a_sub (by omega)]; congr 1; omega)) ?_
      refine Ops.q (q_asg rfl) ?_
      refine Ops.to rfl ?_
      refine Cd.block ?_
      refine Cd.lp (σ := Nat × Int) (fun s => s.1 ≤ (wordX cs5 K).length + 1 ∧ ((s.2 = -1 ∧ ∀ i, s.1 ≤ i → i ≤ (wordX cs5 K).length → accAt (autX bs S K) (d % (S : Int)) (accL m S) (wordX cs5 K) i = false) ∨ ∃ f : Nat, s.2 = (f : Int) ∧ s.1 ≤ f ∧ f ≤ (wordX cs5 K).length ∧ accAt (autX bs S K) (d % (S : Int)) (accL m S) (wordX cs5 K) f = true ∧ ∀ i, s.1 ≤ i → i < f → accAt (autX bs S K) (d % (S : Int)) (accL m S) (wordX cs5 K) i = false)) (fun s => [(1, .pointer (some ⟨b1, 0, none⟩)), (2, .bool false), (3, .pointer (some ⟨b3, 0, none⟩)), (4, .slice wb ((wordX cs5 K).length) wd), (5, .int .i64 (-1)), (6, .int .i64 0), (7, .slice (some ⟨rb, 0, none⟩) ((wordX cs5 K).length + 1) rc), (8, .int .i64 (-1)), (9, .pointer (some ⟨b15, 0, none⟩)), (10, .slice (some ⟨eb, 0, none⟩) ((evA (wordX cs5 K) K).length) ec), (11, .int .i64 0), (13, .int .i64 ((s.1 : Int) - 1)), (12, .int .i64 s.2)]) (fun s => [row (some ⟨eb, 0, none⟩) ec 70 2 ((evA (wordX cs5 K) K).length) ((evA (wordX cs5 K) K).flatMap eEvt), blk b15 40 [.slice qa ((autN (autX bs S K) (d % (S : Int)) (accL m S) K).ns.length) qc, .int .i64 ((autN (autX bs S K) (d % (S : Int)) (accL m S) K).inp), .slice ya ((autN (autX bs S K) (d % (S : Int)) (accL m S) K).ss.length) yc], row qa qc 62 8 ((autN (autX bs S K) (d % (S : Int)) (accL m S) K).ns.length) ((autN (autX bs S K) (d % (S : Int)) (accL m S) K).ns.flatMap ePrm), row ya yc 109 4 ((autN (autX bs S K) (d % (S : Int)) (accL m S) K).ss.length) ((autN (autX bs S K) (d % (S : Int)) (accL m S) K).ss.flatMap eSyn), row (some ⟨rb, 0, none⟩) rc 3 1 ((wordX cs5 K).length + 1) ((wlL (autX bs S K) (d % (S : Int)) (wordX cs5 K) ((wordX cs5 K).length + 1)).flatMap eInt), blk b3 29 [.slice pa S pc, .int .i64 (d % (S : Int)), .slice (some ⟨ab, ao, none⟩) S ac], rd (AutF pa (some ⟨ab, ao, none⟩) ls (accL m S)), row wb wd 3 1 ((wordX cs5 K).length) ((wordX cs5 K).flatMap eInt), blk b1 25 [.int .u8 a, .int .u8 b, .slice ta bs.length tc, .int .u8 d, .int .u64 m, .slice wa cs5.length wc]]) (fun s => s.1) ((wordX cs5 K).length + 1, -1) ⟨Nat.le_refl _, .inl ⟨rfl, fun i h1 h2 => by omega⟩⟩ ⟨rfl, rfl, rfl, rfl, rfl, rfl, rfl, rfl, rfl, rfl, rfl, (show some (Value.int .i64 ((((wordX cs5 K).length : Nat) : Int))) = some (.int .i64 ((((wordX cs5 K).length + 1 : Nat) : Int) - 1)) by congr 2; omega), rfl, trivial⟩ (fun _ hs => hs) ?_
      rintro ⟨k, fst⟩ hI
      dsimp only at hI
      change Cd _ _ _ _ _ _ _ [(1, .pointer (some ⟨b1, 0, none⟩)), (2, .bool false), (3, .pointer (some ⟨b3, 0, none⟩)), (4, .slice wb ((wordX cs5 K).length) wd), (5, .int .i64 (-1)), (6, .int .i64 0), (7, .slice (some ⟨rb, 0, none⟩) ((wordX cs5 K).length + 1) rc), (8, .int .i64 (-1)), (9, .pointer (some ⟨b15, 0, none⟩)), (10, .slice (some ⟨eb, 0, none⟩) ((evA (wordX cs5 K) K).length) ec), (11, .int .i64 0), (13, .int .i64 ((k : Int) - 1)), (12, .int .i64 fst)] ([row (some ⟨eb, 0, none⟩) ec 70 2 ((evA (wordX cs5 K) K).length) ((evA (wordX cs5 K) K).flatMap eEvt), blk b15 40 [.slice qa ((autN (autX bs S K) (d % (S : Int)) (accL m S) K).ns.length) qc, .int .i64 ((autN (autX bs S K) (d % (S : Int)) (accL m S) K).inp), .slice ya ((autN (autX bs S K) (d % (S : Int)) (accL m S) K).ss.length) yc], row qa qc 62 8 ((autN (autX bs S K) (d % (S : Int)) (accL m S) K).ns.length) ((autN (autX bs S K) (d % (S : Int)) (accL m S) K).ns.flatMap ePrm), row ya yc 109 4 ((autN (autX bs S K) (d % (S : Int)) (accL m S) K).ss.length) ((autN (autX bs S K) (d % (S : Int)) (accL m S) K).ss.flatMap eSyn), row (some ⟨rb, 0, none⟩) rc 3 1 ((wordX cs5 K).length + 1) ((wlL (autX bs S K) (d % (S : Int)) (wordX cs5 K) ((wordX cs5 K).length + 1)).flatMap eInt), blk b3 29 [.slice pa S pc, .int .i64 (d % (S : Int)), .slice (some ⟨ab, ao, none⟩) S ac], rd (AutF pa (some ⟨ab, ao, none⟩) ls (accL m S)), row wb wd 3 1 ((wordX cs5 K).length) ((wordX cs5 K).flatMap eInt), blk b1 25 [.int .u8 a, .int .u8 b, .slice ta bs.length tc, .int .u8 d, .int .u64 m, .slice wa cs5.length wc]])
      obtain ⟨hI1, hI2⟩ := hI
      refine Cd.seq ?_
      refine Cd.seq ?_
      refine Cd.region ?_
      refine Ops.q (q_mv rfl) ?_
      by_cases hk0 : 0 ≤ (k : Int) - 1
      · refine Ops.q (q_cmp rfl rfl (c_ge hk0)) ?_
        obtain ⟨i, rfl⟩ : ∃ i, k = i + 1 := ⟨k - 1, by omega⟩
        rw [show ((i + 1 : Nat) : Int) - 1 = (i : Int) by omega]
        refine Ops.to rfl ?_
        refine Cd.cond_t rfl ?_
        refine Cd.skipTo rfl ?_
        refine Cd.seq ?_
        refine Cd.block ?_
        refine Cd.seq ?_
        cases hAi : accAt (autX bs S K) (d % (S : Int)) (accL m S) (wordX cs5 K) i
        · refine Cd.draw rfl (by kernel_rfl) (.cons .p4 (.cons .p4 (.cons .p4 .nil))) ?_
          intro F16 St17 hP18 hF19 hR20
          refine Dr.q (i := 0) hP18 rfl (by kernel_rfl) (q_fa fo_29_2 rfl) ?_
          refine Dr.q (i := 1) hP18 rfl (by kernel_rfl) (q_ldB isA_27 rfl (.there .here) rfl) ?_
          refine Dr.q (i := 2) hP18 rfl (by kernel_rfl) (q_mv rfl) ?_
          refine Dr.q (i := 3) hP18 rfl (by kernel_rfl) (q_mv rfl) ?_
          refine Dr.q (i := 4) hP18 rfl (by kernel_rfl) (q_ix (k := i) esz_31 rfl rfl (by omega)) ?_
          refine Dr.q (i := 5) hP18 rfl (by kernel_rfl) (q_ldO (v := .int .i64 ((wN (autX bs S K) (d % (S : Int)) (wordX cs5 K) i : Nat) : Int)) isA_3 rfl .here (fm_at0 eInt_len (wlL_get (by omega)) rfl)) ?_
          refine Dr.q (i := 6) hP18 rfl (by kernel_rfl) (q_ix (k := (wN (autX bs S K) (d % (S : Int)) (wordX cs5 K) i)) esz_27 rfl rfl (by have := acc_lt hA (i := i); rw [accL_len] at this; exact this)) ?_
          refine Dr.q (i := 7) hP18 rfl (by kernel_rfl) (q_ld (v := .bool false) isA_4 rfl (fun w hs => by have h8 := acc_get (hA := hA) (i := i); rw [hAi] at h8; exact RoL.at0 (hs.read .p2).2 eBool_len h8 rfl)) ?_
          refine Dr.tail 8 (by kernel_rfl) ?_
          refine Ops.sat ?_ (fun _ hs => hR20 .here hs)
          refine Ops.to rfl ?_
          refine Cd.cond_f rfl ?_
          refine Cd.skipTo rfl ?_
          refine Cd.region ?_
          refine Ops.q (q_mv rfl) ?_
          refine Ops.q (q_ar rfl rfl (a_sub (by omega))) ?_
          refine Ops.q (q_asg rfl) ?_
          refine Ops.rnd ((i, fst)) rfl (by dsimp only; exact (⟨by omega, by rcases hI2 with ⟨h1, h2⟩ | ⟨f, h1, h2, h3, h4, h5⟩; (· exact .inl ⟨h1, fun j g1 g2 => by by_cases e : j = i; (· rw [e]; exact hAi); (· exact h2 j (by omega) g2)⟩); (· exact .inr ⟨f, h1, by omega, h3, h4, fun j g1 g2 => by by_cases e : j = i; (· rw [e]; exact hAi); (· exact h5 j (by omega) g2)⟩)⟩)) (by dsimp only; omega) ⟨rfl, rfl, rfl, rfl, rfl, rfl, rfl, rfl, rfl, rfl, rfl, rfl, rfl, trivial⟩ (fun _ hs => (((((((((hs.pull .p8).pull .p8).pull .p4).pull .p4).pull .p4).pull .p8).pull .p8).pull .p8).pull .p8)) 
        · refine Cd.draw rfl (by kernel_rfl) (.cons .p4 (.cons .p4 (.cons .p4 .nil))) ?_
          intro F21 St22 hP23 hF24 hR25
          refine Dr.q (i := 0) hP23 rfl (by kernel_rfl) (q_fa fo_29_2 rfl) ?_
          refine Dr.q (i := 1) hP23 rfl (by kernel_rfl) (q_ldB isA_27 rfl (.there .here) rfl) ?_
          refine Dr.q (i := 2) hP23 rfl (by kernel_rfl) (q_mv rfl) ?_
          refine Dr.q (i := 3) hP23 rfl (by kernel_rfl) (q_mv rfl) ?_
          refine Dr.q (i := 4) hP23 rfl (by kernel_rfl) (q_ix (k := i) esz_31 rfl rfl (by omega)) ?_
          refine Dr.q (i := 5) hP23 rfl (by kernel_rfl) (q_ldO (v := .int .i64 ((wN (autX bs S K) (d % (S : Int)) (wordX cs5 K) i : Nat) : Int)) isA_3 rfl .here (fm_at0 eInt_len (wlL_get (by omega)) rfl)) ?_
          refine Dr.q (i := 6) hP23 rfl (by kernel_rfl) (q_ix (k := (wN (autX bs S K) (d % (S : Int)) (wordX cs5 K) i)) esz_27 rfl rfl (by have := acc_lt hA (i := i); rw [accL_len] at this; exact this)) ?_
          refine Dr.q (i := 7) hP23 rfl (by kernel_rfl) (q_ld (v := .bool true) isA_4 rfl (fun w hs => by have h8 := acc_get (hA := hA) (i := i); rw [hAi] at h8; exact RoL.at0 (hs.read .p2).2 eBool_len h8 rfl)) ?_
          refine Dr.tail 8 (by kernel_rfl) ?_
          refine Ops.sat ?_ (fun _ hs => hR25 .here hs)
          refine Ops.to rfl ?_
          refine Cd.cond_t rfl ?_
          refine Cd.region ?_
          refine Ops.q (q_mv rfl) ?_
          refine Ops.q (q_asg rfl) ?_
          refine Ops.to rfl ?_
          refine Cd.region ?_
          refine Ops.q (q_mv rfl) ?_
          refine Ops.q (q_ar rfl rfl (a_sub (by omega))) ?_
          refine Ops.q (q_asg rfl) ?_
          refine Ops.rnd ((i, (i : Int))) rfl (by dsimp only; exact (⟨by omega, .inr ⟨i, rfl, Nat.le_refl _, by omega, hAi, fun j h1 h2 => by omega⟩⟩)) (by dsimp only; omega) ⟨rfl, rfl, rfl, rfl, rfl, rfl, rfl, rfl, rfl, rfl, rfl, rfl, rfl, trivial⟩ (fun _ hs => (((((((((hs.pull .p8).pull .p8).pull .p4).pull .p4).pull .p4).pull .p8).pull .p8).pull .p8).pull .p8)) 
      · refine Ops.q (q_cmp rfl rfl (c_nge (by omega))) ?_
        obtain rfl : k = 0 := by omega
        refine Ops.to rfl ?_
        refine Cd.cond_f rfl ?_
        refine Cd.exitTo rfl ?_
        refine Cd.seq ?_
        refine Cd.region ?_
        refine Ops.q (q_ldBN [.slice qa ((autN (autX bs S K) (d % (S : Int)) (accL m S) K).ns.length) qc, .int .i64 ((autN (autX bs S K) (d % (S : Int)) (accL m S) K).inp), .slice ya ((autN (autX bs S K) (d % (S : Int)) (accL m S) K).ss.length) yc] isA_40 sz_40 rfl (.there .here) rfl) ?_
        refine Ops.q (q_mv rfl) ?_
        refine Ops.q (q_bld [.slice none 0 0, .slice (some ⟨eb, 0, none⟩) ((evA (wordX cs5 K) K).length) ec, .int .i64 0] pls_49 zc_49 rfl rfl) ?_
        refine Ops.q (q_fa fo_40_0 rfl) ?_
        refine Ops.q (q_ldB isA_37 rfl (.there .here) rfl) ?_
        refine Ops.q (q_len esz_37 rfl) ?_
        refine Ops.q (q_ar (v := (((autX bs S K).length + (autX bs S K).length * K : Nat) : Int)) rfl rfl (by rw [a_sub (by omega)]; congr 1; omega)) ?_
        refine Ops.lit [.int .i64 (((autX bs S K).length + (autX bs S K).length * K : Nat) : Int)] el_31 zsb_3 rfl rfl ⟨by decide, by decide⟩ rfl ?_
        intro b26
        refine Ops.q (q_bld [.slice (some ⟨b26, 0, none⟩) 1 1, .slice none 0 0] pls_51 zc_51 rfl rfl) ?_
        refine Ops.lit [.slice (some ⟨b26, 0, none⟩) 1 1, .slice none 0 0] el_52 zsb_51 rfl rfl ⟨by decide, by decide⟩ rfl ?_
        intro b27
        refine Ops.q (q_mv rfl) ?_
        refine Ops.q (q_len esz_31 rfl) ?_
        refine Ops.q (q_ar (v := ((3 * (wordX cs5 K).length : Nat) : Int)) rfl rfl (by rw [a_mul (by omega)]; congr 1)) ?_
        refine Ops.q (q_ar (v := ((3 * (wordX cs5 K).length + 3 : Nat) : Int)) rfl rfl (by rw [a_add (by omega)]; congr 1)) ?_
        refine Ops.cl (α := {x : Option Addr × Nat × Nat × Int × Bool // (∃ t : Nat, t < 3 * (wordX cs5 K).length + 3 ∧ autF (autX bs S K) (d % (S : Int)) (accL m S) (wordX cs5 K) K t ((autX bs S K).length + (autX bs S K).length * K) = true ∧ (∀ t', t' < t → autF (autX bs S K) (d % (S : Int)) (accL m S) (wordX cs5 K) K t' ((autX bs S K).length + (autX bs S K).length * K) = false) ∧ x.2.2.2.1 = (t : Int) ∧ x.2.2.2.2 = true) ∨ ((∀ t, t < 3 * (wordX cs5 K).length + 3 → autF (autX bs S K) (d % (S : Int)) (accL m S) (wordX cs5 K) K t ((autX bs S K).length + (autX bs S K).length * K) = false) ∧ x.2.2.2.1 = 0 ∧ x.2.2.2.2 = false)}) (v := fun x => .tuple [.slice x.1.1 x.1.2.1 x.1.2.2.1, .int .i64 x.1.2.2.2.1, .bool x.1.2.2.2.2, .int .i64 0].toArray) (B := fun _ => []) en_10 rfl ?_ ?_
        · intro w hs
          have hle := sat_rowle hs .p2
          have h9 := reach_c qa qc ya yc (autN (autX bs S K) (d % (S : Int)) (accL m S) K).ns (autN (autX bs S K) (d % (S : Int)) (accL m S) K).inp (autN (autX bs S K) (d % (S : Int)) (accL m S) K).ss (some ⟨eb, 0, none⟩) ec (evA (wordX cs5 K) K) b27 0 1 (some ⟨b26, 0, none⟩) 1 ((autX bs S K).length + (autX bs S K).length * K) (3 * (wordX cs5 K).length + 3) (autF (autX bs S K) (d % (S : Int)) (accL m S) (wordX cs5 K) K) (idlA (wordX cs5 K) K) (autV (autX bs S K) (d % (S : Int)) (accL m S) (wordX cs5 K) K) w (hs.ownRo .p4) (hs.ownRo .p5) (hs.ownRo .p2) hle (by rw [evA_len]; omega) (hA.rch (by rw [autX_len]; omega) (by omega) (by omega)) (by rw [hnn]; omega) (hs.ownRo .here) (hs.ownRo (.there .here)) (by rw [hnn]; omega) (by omega)
          refine h9.mono fun e w' h => ?_
          obtain ⟨⟨za, zn, zc, hr⟩, hz2⟩ := h
          rcases hr with ⟨t, h1, h2, h3, h4⟩ | ⟨h1, h4⟩
          · exact ⟨⟨(za, zn, zc, (t : Int), true), .inl ⟨t, h1, h2, h3, rfl, rfl⟩⟩, h4, hz2⟩
          · exact ⟨⟨(za, zn, zc, 0, false), .inr ⟨h1, rfl, rfl⟩⟩, h4, hz2⟩
        rintro ⟨⟨za, zn, zc, tk, fd⟩, hsp⟩
        dsimp only at hsp
        refine Ops.q (q_mv rfl) ?_
        refine Ops.q (q_ext rfl rfl) ?_
        refine Ops.q (q_ext rfl rfl) ?_
        refine Ops.q (q_ext rfl rfl) ?_
        refine Ops.q (q_ext rfl rfl) ?_
        refine Ops.q (q_asg rfl) ?_
        refine Ops.q (q_asg rfl) ?_
        refine Ops.q (q_asg rfl) ?_
        refine Ops.q (q_asg rfl) ?_
        refine Ops.to rfl ?_
        refine Cd.seq ?_
        have hlaw := first_law hsp (by rcases hI2 with ⟨h1, h2⟩ | ⟨f, h1, h2, h3, h4, h5⟩; (· exact .inl ⟨h1, fun i hi => h2 i (Nat.zero_le _) hi⟩); (· exact .inr ⟨f, h1, h3, h4, fun i hi => h5 i (Nat.zero_le _) hi⟩))
        rcases hlaw with ⟨rfl, f, rfl, rfl, hf⟩ | ⟨rfl, rfl, rfl⟩
        · refine Cd.region ?_
          refine Ops.q (q_mv rfl) ?_
          refine Ops.q (q_cmp rfl rfl (c_eq (by decide))) ?_
          refine Ops.q (q_mv rfl) ?_
          refine Ops.q (q_mv rfl) ?_
          refine Ops.q (q_cmp rfl rfl (c_eq (by decide))) ?_
          refine Ops.q (q_pickT rfl rfl) ?_
          refine Ops.q (q_mv rfl) ?_
          refine Ops.q (q_mv rfl) ?_
          refine Ops.q (q_cmp rfl rfl (c_eq (by decide))) ?_
          refine Ops.q (q_pickT rfl rfl) ?_
          refine Ops.q (q_mv rfl) ?_
          refine Ops.q (q_mv rfl) ?_
          refine Ops.q (q_mv rfl) ?_
          refine Ops.q (q_cmp rfl rfl (c_ge (by omega))) ?_
          refine Ops.q (q_eqB (show Tryz.prog.underlying 4 = some .bool from u_4) rfl rfl) ?_
          refine Ops.q (q_pickT rfl rfl) ?_
          refine Ops.q (q_mv rfl) ?_
          refine Ops.q (q_mv rfl) ?_
          refine Ops.q (q_not rfl) ?_
          refine Ops.q (q_mv rfl) ?_
          refine Ops.q (q_mv rfl) ?_
          refine Ops.q (q_mv rfl) ?_
          refine Ops.q (q_ar rfl rfl (a_mul (by omega))) ?_
          refine Ops.q (q_ar rfl rfl (a_add (by omega))) ?_
          refine Ops.q (q_cmp rfl rfl (c_eq rfl)) ?_
          refine Ops.q (q_pickF rfl rfl) ?_
          refine Ops.q (q_pickT rfl rfl) ?_
          refine Ops.q (q_mv rfl) ?_
          refine Ops.cp en_11 rfl (fun w hs => decides_c w) ?_
          refine Ops.q (q_pickT rfl rfl) ?_
          refine Ops.q (q_asg rfl) ?_
          refine Ops.to rfl ?_
          refine Cd.rt (fn := Tryz.f3) [.bool true] (by with_reducible repeat (first | exact rq_here | apply rq_then | apply rq_block)) rfl ⟨rfl, trivial⟩ ?_
          intro w' hs'
          exact ⟨rfl, hs'.none⟩
        · refine Cd.region ?_
          refine Ops.q (q_mv rfl) ?_
          refine Ops.q (q_cmp rfl rfl (c_eq (by decide))) ?_
          refine Ops.q (q_mv rfl) ?_
          refine Ops.q (q_mv rfl) ?_
          refine Ops.q (q_cmp rfl rfl (c_eq (by decide))) ?_
          refine Ops.q (q_pickT rfl rfl) ?_
          refine Ops.q (q_mv rfl) ?_
          refine Ops.q (q_mv rfl) ?_
          refine Ops.q (q_cmp rfl rfl (c_eq (by decide))) ?_
          refine Ops.q (q_pickT rfl rfl) ?_
          refine Ops.q (q_mv rfl) ?_
          refine Ops.q (q_mv rfl) ?_
          refine Ops.q (q_mv rfl) ?_
          refine Ops.q (q_cmp rfl rfl (c_nge (by decide))) ?_
          refine Ops.q (q_eqB (show Tryz.prog.underlying 4 = some .bool from u_4) rfl rfl) ?_
          refine Ops.q (q_pickT rfl rfl) ?_
          refine Ops.q (q_mv rfl) ?_
          refine Ops.q (q_mv rfl) ?_
          refine Ops.q (q_not rfl) ?_
          refine Ops.q (q_mv rfl) ?_
          refine Ops.sk ?_
          refine Ops.sk ?_
          refine Ops.sk ?_
          refine Ops.sk ?_
          refine Ops.sk ?_
          refine Ops.q (q_pickT rfl rfl) ?_
          refine Ops.q (q_pickT rfl rfl) ?_
          refine Ops.q (q_mv rfl) ?_
          refine Ops.cp en_11 rfl (fun w hs => decides_c w) ?_
          refine Ops.q (q_pickT rfl rfl) ?_
          refine Ops.q (q_asg rfl) ?_
          refine Ops.to rfl ?_
          refine Cd.rt (fn := Tryz.f3) [.bool true] (by with_reducible repeat (first | exact rq_here | apply rq_then | apply rq_block)) rfl ⟨rfl, trivial⟩ ?_
          intro w' hs'
          exact ⟨rfl, hs'.none⟩
    · refine Cd.seq ?_
      refine Cd.region ?_
      refine Ops.q (q_ldBN [.slice pa S pc, .int .i64 (d % (S : Int)), .slice aa S ac] isA_29 sz_29 rfl .here rfl) ?_
      refine Ops.q (q_mv rfl) ?_
      refine Ops.cp (v := .tuple [.int .i64 (1), .int .i64 0].toArray) en_6 rfl ?_ ?_
      · intro w hs
        have h9 := decided_c pa pc ls (d % (S : Int)) aa ac (accL m S) wb wd (wordX cs5 K) K (autX bs S K) w hz hA (by rw [autX_len]; omega) (by omega) (by have := wordX_len cs5 K; omega) (hs.read (.there .here)).1 (hs.read (.there .here)).2 (hs.ownRo .p2)
        rw [hA9, hzl, accL_len] at h9
        exact h9
      refine Ops.q (q_mv rfl) ?_
      refine Ops.q (q_ext rfl rfl) ?_
      refine Ops.q (q_ext rfl rfl) ?_
      refine Ops.q (q_asg rfl) ?_
      refine Ops.q (q_asg rfl) ?_
      refine Ops.to rfl ?_
      refine Cd.seq ?_
      refine Cd.region ?_
      refine Ops.q (q_ldBN [.slice pa S pc, .int .i64 (d % (S : Int)), .slice aa S ac] isA_29 sz_29 rfl .here rfl) ?_
      refine Ops.q (q_mv rfl) ?_
      refine Ops.cl (α := Option Addr × Nat) (v := fun p => .slice p.1 ((wordX cs5 K).length + 1) p.2) (B := fun p => [row p.1 p.2 3 1 ((wordX cs5 K).length + 1) ((wlL (autX bs S K) (d % (S : Int)) (wordX cs5 K) ((wordX cs5 K).length + 1)).flatMap eInt)]) en_7 rfl (fun w hs => by have h9 := reached_c pa pc ls (d % (S : Int)) aa ac (accL m S) wb wd (wordX cs5 K) K (autX bs S K) w hz hA (by have := wordX_len cs5 K; omega) (hs.read (.there .here)).1 (hs.ownRo .p2); rw [hzl, accL_len] at h9; exact h9) ?_
      rintro ⟨ra, rc⟩
      refine Ops.rowpos .here (by omega) ?_
      rintro rb h9
      dsimp only at h9
      subst h9
      refine Ops.q (q_asg rfl) ?_
      refine Ops.to rfl ?_
      refine Cd.seq ?_
      refine Cd.region ?_
      refine Ops.q (q_asg rfl) ?_
      refine Ops.to rfl ?_
      refine Cd.seq ?_
      refine Cd.seq ?_
      refine Cd.xpos (a := aa) (cs := (accL m S).flatMap eBool) (fun w hs => (hs.read .p2).2) (fm_pos eBool_len (acc_get (hA := hA) (i := 0))) ?_
      rintro ab ao rfl
      refine Cd.draw rfl (by kernel_rfl) (.cons .here (.cons .here (.cons .here .nil))) ?_
      intro F28 St29 hP30 hF31 hR32
      refine Dr.q (i := 0) hP30 rfl (by kernel_rfl) (q_fa fo_29_2 rfl) ?_
      refine Dr.q (i := 1) hP30 rfl (by kernel_rfl) (q_ldB isA_27 rfl (.there .here) rfl) ?_
      refine Dr.q (i := 2) hP30 rfl (by kernel_rfl) (q_mv rfl) ?_
      refine Dr.q (i := 3) hP30 rfl (by kernel_rfl) (q_mv rfl) ?_
      refine Dr.q (i := 4) hP30 rfl (by kernel_rfl) (q_len esz_31 rfl) ?_
      refine Dr.q (i := 5) hP30 rfl (by kernel_rfl) (q_ar (v := (((wordX cs5 K).length : Nat) : Int)) rfl rfl (by rw [a_sub (by omega)]; congr 1; omega)) ?_
      refine Dr.q (i := 6) hP30 rfl (by kernel_rfl) (q_ix (k := ((wordX cs5 K).length)) esz_31 rfl rfl (by omega)) ?_
      refine Dr.q (i := 7) hP30 rfl (by kernel_rfl) (q_ldO (v := .int .i64 ((wN (autX bs S K) (d % (S : Int)) (wordX cs5 K) (wordX cs5 K).length : Nat) : Int)) isA_3 rfl .here (fm_at0 eInt_len (wlL_get (by omega)) rfl)) ?_
      refine Dr.q (i := 8) hP30 rfl (by kernel_rfl) (q_ix (k := (wN (autX bs S K) (d % (S : Int)) (wordX cs5 K) ((wordX cs5 K).length))) esz_27 rfl rfl (by have := acc_lt hA (i := (wordX cs5 K).length); rw [accL_len] at this; exact this)) ?_
      refine Dr.q (i := 9) hP30 rfl (by kernel_rfl) (q_ld (v := .bool true) isA_4 rfl (fun w hs => by have h8 := acc_get (hA := hA) (i := (wordX cs5 K).length); rw [← accP_at, hA9] at h8; exact RoL.at0 (hs.read .p2).2 eBool_len h8 rfl)) ?_
      refine Dr.tail 10 (by kernel_rfl) ?_
      refine Ops.sat ?_ (fun _ hs => hR32 .here hs)
      refine Ops.to rfl ?_
      refine Cd.cond_t rfl ?_
      refine Cd.region ?_
      refine Ops.q (q_asg rfl) ?_
      refine Ops.to rfl ?_
      refine Cd.seq ?_
      refine Cd.seq ?_
      refine Cd.region ?_
      refine Ops.q (q_mv rfl) ?_
      refine Ops.q (q_cmp rfl rfl (c_nne (by decide))) ?_
      refine Ops.q (q_mv rfl) ?_
      refine Ops.q (q_mv rfl) ?_
      refine Ops.q (q_mv rfl) ?_
      refine Ops.q (q_cmp rfl rfl (c_nne (by decide))) ?_
      refine Ops.q (q_pickF rfl rfl) ?_
      refine Ops.to rfl ?_
      refine Cd.cond_f rfl ?_
      refine Cd.skipTo rfl ?_
      refine Cd.seq ?_
      refine Cd.region ?_
      refine Ops.q (q_ldBN [.slice pa S pc, .int .i64 (d % (S : Int)), .slice (some ⟨ab, ao, none⟩) S ac] isA_29 sz_29 rfl (.there .here) rfl) ?_
      refine Ops.cl (α := (Option Addr × Nat) × (Option Addr × Nat)) (v := fun x => .tuple [.agg [.slice x.1.1 (autN (autX bs S K) (d % (S : Int)) (accL m S) K).ns.length x.1.2, .int .i64 (autN (autX bs S K) (d % (S : Int)) (accL m S) K).inp, .slice x.2.1 (autN (autX bs S K) (d % (S : Int)) (accL m S) K).ss.length x.2.2].toArray, .int .i64 0].toArray) (B := fun x => [row x.1.1 x.1.2 62 8 (autN (autX bs S K) (d % (S : Int)) (accL m S) K).ns.length ((autN (autX bs S K) (d % (S : Int)) (accL m S) K).ns.flatMap ePrm), row x.2.1 x.2.2 109 4 (autN (autX bs S K) (d % (S : Int)) (accL m S) K).ss.length ((autN (autX bs S K) (d % (S : Int)) (accL m S) K).ss.flatMap eSyn)]) en_8 rfl (fun w hs => by have h9 := mach_q (nc := pc) (ac := ac) hz hA (hs.read .p2).1 (hs.read .p2).2; rw [hzl, accL_len] at h9; exact h9) ?_
      rintro ⟨⟨qa, qc⟩, ⟨ya, yc⟩⟩
      refine Ops.q (q_mv rfl) ?_
      refine Ops.q (q_ext rfl rfl) ?_
      refine Ops.q (q_ext rfl rfl) ?_
      refine Ops.alc [.slice none 0 0, .int .i64 0, .slice none 0 0] zc_40 ?_
      intro b33
      refine Ops.stB [.slice qa ((autN (autX bs S K) (d % (S : Int)) (accL m S) K).ns.length) qc, .int .i64 ((autN (autX bs S K) (d % (S : Int)) (accL m S) K).inp), .slice ya ((autN (autX bs S K) (d % (S : Int)) (accL m S) K).ss.length) yc] [.slice qa ((autN (autX bs S K) (d % (S : Int)) (accL m S) K).ns.length) qc, .int .i64 ((autN (autX bs S K) (d % (S : Int)) (accL m S) K).inp), .slice ya ((autN (autX bs S K) (d % (S : Int)) (accL m S) K).ss.length) yc] sz_40 rfl rfl rfl (one rfl) .here rfl rfl ?_
      refine Ops.q (q_asg rfl) ?_
      refine Ops.to rfl ?_
      refine Cd.seq ?_
      refine Cd.region ?_
      refine Ops.q (q_ldBN [.slice pa S pc, .int .i64 (d % (S : Int)), .slice (some ⟨ab, ao, none⟩) S ac] isA_29 sz_29 rfl .p4 rfl) ?_
      refine Ops.q (q_mv rfl) ?_
      refine Ops.cl (α := Option Addr × Nat) (v := fun x => .tuple [.slice x.1 (evA (wordX cs5 K) K).length x.2, .int .i64 0].toArray) (B := fun x => [row x.1 x.2 70 2 (evA (wordX cs5 K) K).length ((evA (wordX cs5 K) K).flatMap eEvt)]) en_9 rfl (fun w hs => by have h9 := word_q (aa := (some ⟨ab, ao, none⟩)) (nc := pc) (ac := ac) (acc := (accL m S)) (wc := wd) hz hA (by have := wordX_len cs5 K; omega) (hs.read .p5).1 (hs.ownRo .p6); rw [hzl, accL_len] at h9; exact h9) ?_
      rintro ⟨ea, ec⟩
      refine Ops.rowpos .here (by rw [evA_len]; omega) ?_
      rintro eb h9
      dsimp only at h9
      subst h9
      refine Ops.q (q_mv rfl) ?_
      refine Ops.q (q_ext rfl rfl) ?_
      refine Ops.q (q_ext rfl rfl) ?_
      refine Ops.q (q_asg rfl) ?_
      refine Ops.q (q_asg rfl) ?_
      refine Ops.to rfl ?_
      refine Cd.seq ?_
      refine Cd.region ?_
      refine Ops.q (q_asg rfl) ?_
      refine Ops.to rfl ?_
      refine Cd.seq ?_
      refine Cd.seq ?_
      refine Cd.region ?_
      refine Ops.q (q_mv rfl) ?_
      refine Ops.q (q_len esz_31 rfl) ?_
      refine Ops.q (q_ar (v := (((wordX cs5 K).length : Nat) : Int)) rfl rfl (by rw [a_sub (by omega)]; congr 1; omega)) ?_
      refine Ops.q (q_asg rfl) ?_
      refine Ops.to rfl ?_
      refine Cd.block ?_
      refine Cd.lp (σ := Nat × Int) (fun s => s.1 ≤ (wordX cs5 K).length + 1 ∧ ((s.2 = -1 ∧ ∀ i, s.1 ≤ i → i ≤ (wordX cs5 K).length → accAt (autX bs S K) (d % (S : Int)) (accL m S) (wordX cs5 K) i = false) ∨ ∃ f : Nat, s.2 = (f : Int) ∧ s.1 ≤ f ∧ f ≤ (wordX cs5 K).length ∧ accAt (autX bs S K) (d % (S : Int)) (accL m S) (wordX cs5 K) f = true ∧ ∀ i, s.1 ≤ i → i < f → accAt (autX bs S K) (d % (S : Int)) (accL m S) (wordX cs5 K) i = false)) (fun s => [(1, .pointer (some ⟨b1, 0, none⟩)), (2, .bool false), (3, .pointer (some ⟨b3, 0, none⟩)), (4, .slice wb ((wordX cs5 K).length) wd), (5, .int .i64 1), (6, .int .i64 0), (7, .slice (some ⟨rb, 0, none⟩) ((wordX cs5 K).length + 1) rc), (8, .int .i64 1), (9, .pointer (some ⟨b33, 0, none⟩)), (10, .slice (some ⟨eb, 0, none⟩) ((evA (wordX cs5 K) K).length) ec), (11, .int .i64 0), (13, .int .i64 ((s.1 : Int) - 1)), (12, .int .i64 s.2)]) (fun s => [row (some ⟨eb, 0, none⟩) ec 70 2 ((evA (wordX cs5 K) K).length) ((evA (wordX cs5 K) K).flatMap eEvt), blk b33 40 [.slice qa ((autN (autX bs S K) (d % (S : Int)) (accL m S) K).ns.length) qc, .int .i64 ((autN (autX bs S K) (d % (S : Int)) (accL m S) K).inp), .slice ya ((autN (autX bs S K) (d % (S : Int)) (accL m S) K).ss.length) yc], row qa qc 62 8 ((autN (autX bs S K) (d % (S : Int)) (accL m S) K).ns.length) ((autN (autX bs S K) (d % (S : Int)) (accL m S) K).ns.flatMap ePrm), row ya yc 109 4 ((autN (autX bs S K) (d % (S : Int)) (accL m S) K).ss.length) ((autN (autX bs S K) (d % (S : Int)) (accL m S) K).ss.flatMap eSyn), row (some ⟨rb, 0, none⟩) rc 3 1 ((wordX cs5 K).length + 1) ((wlL (autX bs S K) (d % (S : Int)) (wordX cs5 K) ((wordX cs5 K).length + 1)).flatMap eInt), blk b3 29 [.slice pa S pc, .int .i64 (d % (S : Int)), .slice (some ⟨ab, ao, none⟩) S ac], rd (AutF pa (some ⟨ab, ao, none⟩) ls (accL m S)), row wb wd 3 1 ((wordX cs5 K).length) ((wordX cs5 K).flatMap eInt), blk b1 25 [.int .u8 a, .int .u8 b, .slice ta bs.length tc, .int .u8 d, .int .u64 m, .slice wa cs5.length wc]]) (fun s => s.1) ((wordX cs5 K).length + 1, -1) ⟨Nat.le_refl _, .inl ⟨rfl, fun i h1 h2 => by omega⟩⟩ ⟨rfl, rfl, rfl, rfl, rfl, rfl, rfl, rfl, rfl, rfl, rfl, (show some (Value.int .i64 ((((wordX cs5 K).length : Nat) : Int))) = some (.int .i64 ((((wordX cs5 K).length + 1 : Nat) : Int) - 1)) by congr 2; omega), rfl, trivial⟩ (fun _ hs => hs) ?_
      rintro ⟨k, fst⟩ hI
      dsimp only at hI
      change Cd _ _ _ _ _ _ _ [(1, .pointer (some ⟨b1, 0, none⟩)), (2, .bool false), (3, .pointer (some ⟨b3, 0, none⟩)), (4, .slice wb ((wordX cs5 K).length) wd), (5, .int .i64 1), (6, .int .i64 0), (7, .slice (some ⟨rb, 0, none⟩) ((wordX cs5 K).length + 1) rc), (8, .int .i64 1), (9, .pointer (some ⟨b33, 0, none⟩)), (10, .slice (some ⟨eb, 0, none⟩) ((evA (wordX cs5 K) K).length) ec), (11, .int .i64 0), (13, .int .i64 ((k : Int) - 1)), (12, .int .i64 fst)] ([row (some ⟨eb, 0, none⟩) ec 70 2 ((evA (wordX cs5 K) K).length) ((evA (wordX cs5 K) K).flatMap eEvt), blk b33 40 [.slice qa ((autN (autX bs S K) (d % (S : Int)) (accL m S) K).ns.length) qc, .int .i64 ((autN (autX bs S K) (d % (S : Int)) (accL m S) K).inp), .slice ya ((autN (autX bs S K) (d % (S : Int)) (accL m S) K).ss.length) yc], row qa qc 62 8 ((autN (autX bs S K) (d % (S : Int)) (accL m S) K).ns.length) ((autN (autX bs S K) (d % (S : Int)) (accL m S) K).ns.flatMap ePrm), row ya yc 109 4 ((autN (autX bs S K) (d % (S : Int)) (accL m S) K).ss.length) ((autN (autX bs S K) (d % (S : Int)) (accL m S) K).ss.flatMap eSyn), row (some ⟨rb, 0, none⟩) rc 3 1 ((wordX cs5 K).length + 1) ((wlL (autX bs S K) (d % (S : Int)) (wordX cs5 K) ((wordX cs5 K).length + 1)).flatMap eInt), blk b3 29 [.slice pa S pc, .int .i64 (d % (S : Int)), .slice (some ⟨ab, ao, none⟩) S ac], rd (AutF pa (some ⟨ab, ao, none⟩) ls (accL m S)), row wb wd 3 1 ((wordX cs5 K).length) ((wordX cs5 K).flatMap eInt), blk b1 25 [.int .u8 a, .int .u8 b, .slice ta bs.length tc, .int .u8 d, .int .u64 m, .slice wa cs5.length wc]])
      obtain ⟨hI1, hI2⟩ := hI
      refine Cd.seq ?_
      refine Cd.seq ?_
      refine Cd.region ?_
      refine Ops.q (q_mv rfl) ?_
      by_cases hk0 : 0 ≤ (k : Int) - 1
      · refine Ops.q (q_cmp rfl rfl (c_ge hk0)) ?_
        obtain ⟨i, rfl⟩ : ∃ i, k = i + 1 := ⟨k - 1, by omega⟩
        rw [show ((i + 1 : Nat) : Int) - 1 = (i : Int) by omega]
        refine Ops.to rfl ?_
        refine Cd.cond_t rfl ?_
        refine Cd.skipTo rfl ?_
        refine Cd.seq ?_
        refine Cd.block ?_
        refine Cd.seq ?_
        cases hAi : accAt (autX bs S K) (d % (S : Int)) (accL m S) (wordX cs5 K) i
        · refine Cd.draw rfl (by kernel_rfl) (.cons .p4 (.cons .p4 (.cons .p4 .nil))) ?_
          intro F34 St35 hP36 hF37 hR38
          refine Dr.q (i := 0) hP36 rfl (by kernel_rfl) (q_fa fo_29_2 rfl) ?_
          refine Dr.q (i := 1) hP36 rfl (by kernel_rfl) (q_ldB isA_27 rfl (.there .here) rfl) ?_
          refine Dr.q (i := 2) hP36 rfl (by kernel_rfl) (q_mv rfl) ?_
          refine Dr.q (i := 3) hP36 rfl (by kernel_rfl) (q_mv rfl) ?_
          refine Dr.q (i := 4) hP36 rfl (by kernel_rfl) (q_ix (k := i) esz_31 rfl rfl (by omega)) ?_
          refine Dr.q (i := 5) hP36 rfl (by kernel_rfl) (q_ldO (v := .int .i64 ((wN (autX bs S K) (d % (S : Int)) (wordX cs5 K) i : Nat) : Int)) isA_3 rfl .here (fm_at0 eInt_len (wlL_get (by omega)) rfl)) ?_
          refine Dr.q (i := 6) hP36 rfl (by kernel_rfl) (q_ix (k := (wN (autX bs S K) (d % (S : Int)) (wordX cs5 K) i)) esz_27 rfl rfl (by have := acc_lt hA (i := i); rw [accL_len] at this; exact this)) ?_
          refine Dr.q (i := 7) hP36 rfl (by kernel_rfl) (q_ld (v := .bool false) isA_4 rfl (fun w hs => by have h8 := acc_get (hA := hA) (i := i); rw [hAi] at h8; exact RoL.at0 (hs.read .p2).2 eBool_len h8 rfl)) ?_
          refine Dr.tail 8 (by kernel_rfl) ?_
          refine Ops.sat ?_ (fun _ hs => hR38 .here hs)
          refine Ops.to rfl ?_
          refine Cd.cond_f rfl ?_
          refine Cd.skipTo rfl ?_
          refine Cd.region ?_
          refine Ops.q (q_mv rfl) ?_
          refine Ops.q (q_ar rfl rfl (a_sub (by omega))) ?_
          refine Ops.q (q_asg rfl) ?_
          refine Ops.rnd ((i, fst)) rfl (by dsimp only; exact (⟨by omega, by rcases hI2 with ⟨h1, h2⟩ | ⟨f, h1, h2, h3, h4, h5⟩; (· exact .inl ⟨h1, fun j g1 g2 => by by_cases e : j = i; (· rw [e]; exact hAi); (· exact h2 j (by omega) g2)⟩); (· exact .inr ⟨f, h1, by omega, h3, h4, fun j g1 g2 => by by_cases e : j = i; (· rw [e]; exact hAi); (· exact h5 j (by omega) g2)⟩)⟩)) (by dsimp only; omega) ⟨rfl, rfl, rfl, rfl, rfl, rfl, rfl, rfl, rfl, rfl, rfl, rfl, rfl, trivial⟩ (fun _ hs => (((((((((hs.pull .p8).pull .p8).pull .p4).pull .p4).pull .p4).pull .p8).pull .p8).pull .p8).pull .p8)) 
        · refine Cd.draw rfl (by kernel_rfl) (.cons .p4 (.cons .p4 (.cons .p4 .nil))) ?_
          intro F39 St40 hP41 hF42 hR43
          refine Dr.q (i := 0) hP41 rfl (by kernel_rfl) (q_fa fo_29_2 rfl) ?_
          refine Dr.q (i := 1) hP41 rfl (by kernel_rfl) (q_ldB isA_27 rfl (.there .here) rfl) ?_
          refine Dr.q (i := 2) hP41 rfl (by kernel_rfl) (q_mv rfl) ?_
          refine Dr.q (i := 3) hP41 rfl (by kernel_rfl) (q_mv rfl) ?_
          refine Dr.q (i := 4) hP41 rfl (by kernel_rfl) (q_ix (k := i) esz_31 rfl rfl (by omega)) ?_
          refine Dr.q (i := 5) hP41 rfl (by kernel_rfl) (q_ldO (v := .int .i64 ((wN (autX bs S K) (d % (S : Int)) (wordX cs5 K) i : Nat) : Int)) isA_3 rfl .here (fm_at0 eInt_len (wlL_get (by omega)) rfl)) ?_
          refine Dr.q (i := 6) hP41 rfl (by kernel_rfl) (q_ix (k := (wN (autX bs S K) (d % (S : Int)) (wordX cs5 K) i)) esz_27 rfl rfl (by have := acc_lt hA (i := i); rw [accL_len] at this; exact this)) ?_
          refine Dr.q (i := 7) hP41 rfl (by kernel_rfl) (q_ld (v := .bool true) isA_4 rfl (fun w hs => by have h8 := acc_get (hA := hA) (i := i); rw [hAi] at h8; exact RoL.at0 (hs.read .p2).2 eBool_len h8 rfl)) ?_
          refine Dr.tail 8 (by kernel_rfl) ?_
          refine Ops.sat ?_ (fun _ hs => hR43 .here hs)
          refine Ops.to rfl ?_
          refine Cd.cond_t rfl ?_
          refine Cd.region ?_
          refine Ops.q (q_mv rfl) ?_
          refine Ops.q (q_asg rfl) ?_
          refine Ops.to rfl ?_
          refine Cd.region ?_
          refine Ops.q (q_mv rfl) ?_
          refine Ops.q (q_ar rfl rfl (a_sub (by omega))) ?_
          refine Ops.q (q_asg rfl) ?_
          refine Ops.rnd ((i, (i : Int))) rfl (by dsimp only; exact (⟨by omega, .inr ⟨i, rfl, Nat.le_refl _, by omega, hAi, fun j h1 h2 => by omega⟩⟩)) (by dsimp only; omega) ⟨rfl, rfl, rfl, rfl, rfl, rfl, rfl, rfl, rfl, rfl, rfl, rfl, rfl, trivial⟩ (fun _ hs => (((((((((hs.pull .p8).pull .p8).pull .p4).pull .p4).pull .p4).pull .p8).pull .p8).pull .p8).pull .p8)) 
      · refine Ops.q (q_cmp rfl rfl (c_nge (by omega))) ?_
        obtain rfl : k = 0 := by omega
        refine Ops.to rfl ?_
        refine Cd.cond_f rfl ?_
        refine Cd.exitTo rfl ?_
        refine Cd.seq ?_
        refine Cd.region ?_
        refine Ops.q (q_ldBN [.slice qa ((autN (autX bs S K) (d % (S : Int)) (accL m S) K).ns.length) qc, .int .i64 ((autN (autX bs S K) (d % (S : Int)) (accL m S) K).inp), .slice ya ((autN (autX bs S K) (d % (S : Int)) (accL m S) K).ss.length) yc] isA_40 sz_40 rfl (.there .here) rfl) ?_
        refine Ops.q (q_mv rfl) ?_
        refine Ops.q (q_bld [.slice none 0 0, .slice (some ⟨eb, 0, none⟩) ((evA (wordX cs5 K) K).length) ec, .int .i64 0] pls_49 zc_49 rfl rfl) ?_
        refine Ops.q (q_fa fo_40_0 rfl) ?_
        refine Ops.q (q_ldB isA_37 rfl (.there .here) rfl) ?_
        refine Ops.q (q_len esz_37 rfl) ?_
        refine Ops.q (q_ar (v := (((autX bs S K).length + (autX bs S K).length * K : Nat) : Int)) rfl rfl (by rw [a_sub (by omega)]; congr 1; omega)) ?_
        refine Ops.lit [.int .i64 (((autX bs S K).length + (autX bs S K).length * K : Nat) : Int)] el_31 zsb_3 rfl rfl ⟨by decide, by decide⟩ rfl ?_
        intro b44
        refine Ops.q (q_bld [.slice (some ⟨b44, 0, none⟩) 1 1, .slice none 0 0] pls_51 zc_51 rfl rfl) ?_
        refine Ops.lit [.slice (some ⟨b44, 0, none⟩) 1 1, .slice none 0 0] el_52 zsb_51 rfl rfl ⟨by decide, by decide⟩ rfl ?_
        intro b45
        refine Ops.q (q_mv rfl) ?_
        refine Ops.q (q_len esz_31 rfl) ?_
        refine Ops.q (q_ar (v := ((3 * (wordX cs5 K).length : Nat) : Int)) rfl rfl (by rw [a_mul (by omega)]; congr 1)) ?_
        refine Ops.q (q_ar (v := ((3 * (wordX cs5 K).length + 3 : Nat) : Int)) rfl rfl (by rw [a_add (by omega)]; congr 1)) ?_
        refine Ops.cl (α := {x : Option Addr × Nat × Nat × Int × Bool // (∃ t : Nat, t < 3 * (wordX cs5 K).length + 3 ∧ autF (autX bs S K) (d % (S : Int)) (accL m S) (wordX cs5 K) K t ((autX bs S K).length + (autX bs S K).length * K) = true ∧ (∀ t', t' < t → autF (autX bs S K) (d % (S : Int)) (accL m S) (wordX cs5 K) K t' ((autX bs S K).length + (autX bs S K).length * K) = false) ∧ x.2.2.2.1 = (t : Int) ∧ x.2.2.2.2 = true) ∨ ((∀ t, t < 3 * (wordX cs5 K).length + 3 → autF (autX bs S K) (d % (S : Int)) (accL m S) (wordX cs5 K) K t ((autX bs S K).length + (autX bs S K).length * K) = false) ∧ x.2.2.2.1 = 0 ∧ x.2.2.2.2 = false)}) (v := fun x => .tuple [.slice x.1.1 x.1.2.1 x.1.2.2.1, .int .i64 x.1.2.2.2.1, .bool x.1.2.2.2.2, .int .i64 0].toArray) (B := fun _ => []) en_10 rfl ?_ ?_
        · intro w hs
          have hle := sat_rowle hs .p2
          have h9 := reach_c qa qc ya yc (autN (autX bs S K) (d % (S : Int)) (accL m S) K).ns (autN (autX bs S K) (d % (S : Int)) (accL m S) K).inp (autN (autX bs S K) (d % (S : Int)) (accL m S) K).ss (some ⟨eb, 0, none⟩) ec (evA (wordX cs5 K) K) b45 0 1 (some ⟨b44, 0, none⟩) 1 ((autX bs S K).length + (autX bs S K).length * K) (3 * (wordX cs5 K).length + 3) (autF (autX bs S K) (d % (S : Int)) (accL m S) (wordX cs5 K) K) (idlA (wordX cs5 K) K) (autV (autX bs S K) (d % (S : Int)) (accL m S) (wordX cs5 K) K) w (hs.ownRo .p4) (hs.ownRo .p5) (hs.ownRo .p2) hle (by rw [evA_len]; omega) (hA.rch (by rw [autX_len]; omega) (by omega) (by omega)) (by rw [hnn]; omega) (hs.ownRo .here) (hs.ownRo (.there .here)) (by rw [hnn]; omega) (by omega)
          refine h9.mono fun e w' h => ?_
          obtain ⟨⟨za, zn, zc, hr⟩, hz2⟩ := h
          rcases hr with ⟨t, h1, h2, h3, h4⟩ | ⟨h1, h4⟩
          · exact ⟨⟨(za, zn, zc, (t : Int), true), .inl ⟨t, h1, h2, h3, rfl, rfl⟩⟩, h4, hz2⟩
          · exact ⟨⟨(za, zn, zc, 0, false), .inr ⟨h1, rfl, rfl⟩⟩, h4, hz2⟩
        rintro ⟨⟨za, zn, zc, tk, fd⟩, hsp⟩
        dsimp only at hsp
        refine Ops.q (q_mv rfl) ?_
        refine Ops.q (q_ext rfl rfl) ?_
        refine Ops.q (q_ext rfl rfl) ?_
        refine Ops.q (q_ext rfl rfl) ?_
        refine Ops.q (q_ext rfl rfl) ?_
        refine Ops.q (q_asg rfl) ?_
        refine Ops.q (q_asg rfl) ?_
        refine Ops.q (q_asg rfl) ?_
        refine Ops.q (q_asg rfl) ?_
        refine Ops.to rfl ?_
        refine Cd.seq ?_
        have hlaw := first_law hsp (by rcases hI2 with ⟨h1, h2⟩ | ⟨f, h1, h2, h3, h4, h5⟩; (· exact .inl ⟨h1, fun i hi => h2 i (Nat.zero_le _) hi⟩); (· exact .inr ⟨f, h1, h3, h4, fun i hi => h5 i (Nat.zero_le _) hi⟩))
        rcases hlaw with ⟨rfl, f, rfl, rfl, hf⟩ | ⟨rfl, rfl, rfl⟩
        · refine Cd.region ?_
          refine Ops.q (q_mv rfl) ?_
          refine Ops.q (q_cmp rfl rfl (c_eq (by decide))) ?_
          refine Ops.q (q_mv rfl) ?_
          refine Ops.q (q_mv rfl) ?_
          refine Ops.q (q_cmp rfl rfl (c_eq (by decide))) ?_
          refine Ops.q (q_pickT rfl rfl) ?_
          refine Ops.q (q_mv rfl) ?_
          refine Ops.q (q_mv rfl) ?_
          refine Ops.q (q_cmp rfl rfl (c_eq (by decide))) ?_
          refine Ops.q (q_pickT rfl rfl) ?_
          refine Ops.q (q_mv rfl) ?_
          refine Ops.q (q_mv rfl) ?_
          refine Ops.q (q_mv rfl) ?_
          refine Ops.q (q_cmp rfl rfl (c_ge (by omega))) ?_
          refine Ops.q (q_eqB (show Tryz.prog.underlying 4 = some .bool from u_4) rfl rfl) ?_
          refine Ops.q (q_pickT rfl rfl) ?_
          refine Ops.q (q_mv rfl) ?_
          refine Ops.q (q_mv rfl) ?_
          refine Ops.q (q_not rfl) ?_
          refine Ops.q (q_mv rfl) ?_
          refine Ops.q (q_mv rfl) ?_
          refine Ops.q (q_mv rfl) ?_
          refine Ops.q (q_ar rfl rfl (a_mul (by omega))) ?_
          refine Ops.q (q_ar rfl rfl (a_add (by omega))) ?_
          refine Ops.q (q_cmp rfl rfl (c_eq rfl)) ?_
          refine Ops.q (q_pickF rfl rfl) ?_
          refine Ops.q (q_pickT rfl rfl) ?_
          refine Ops.q (q_mv rfl) ?_
          refine Ops.cp en_11 rfl (fun w hs => decides_c w) ?_
          refine Ops.q (q_pickT rfl rfl) ?_
          refine Ops.q (q_asg rfl) ?_
          refine Ops.to rfl ?_
          refine Cd.rt (fn := Tryz.f3) [.bool true] (by with_reducible repeat (first | exact rq_here | apply rq_then | apply rq_block)) rfl ⟨rfl, trivial⟩ ?_
          intro w' hs'
          exact ⟨rfl, hs'.none⟩
        · refine Cd.region ?_
          refine Ops.q (q_mv rfl) ?_
          refine Ops.q (q_cmp rfl rfl (c_eq (by decide))) ?_
          refine Ops.q (q_mv rfl) ?_
          refine Ops.q (q_mv rfl) ?_
          refine Ops.q (q_cmp rfl rfl (c_eq (by decide))) ?_
          refine Ops.q (q_pickT rfl rfl) ?_
          refine Ops.q (q_mv rfl) ?_
          refine Ops.q (q_mv rfl) ?_
          refine Ops.q (q_cmp rfl rfl (c_eq (by decide))) ?_
          refine Ops.q (q_pickT rfl rfl) ?_
          refine Ops.q (q_mv rfl) ?_
          refine Ops.q (q_mv rfl) ?_
          refine Ops.q (q_mv rfl) ?_
          refine Ops.q (q_cmp rfl rfl (c_nge (by decide))) ?_
          refine Ops.q (q_eqB (show Tryz.prog.underlying 4 = some .bool from u_4) rfl rfl) ?_
          refine Ops.q (q_pickT rfl rfl) ?_
          refine Ops.q (q_mv rfl) ?_
          refine Ops.q (q_mv rfl) ?_
          refine Ops.q (q_not rfl) ?_
          refine Ops.q (q_mv rfl) ?_
          refine Ops.sk ?_
          refine Ops.sk ?_
          refine Ops.sk ?_
          refine Ops.sk ?_
          refine Ops.sk ?_
          refine Ops.q (q_pickT rfl rfl) ?_
          refine Ops.q (q_pickT rfl rfl) ?_
          refine Ops.q (q_mv rfl) ?_
          refine Ops.cp en_11 rfl (fun w hs => decides_c w) ?_
          refine Ops.q (q_pickT rfl rfl) ?_
          refine Ops.q (q_asg rfl) ?_
          refine Ops.to rfl ?_
          refine Cd.rt (fn := Tryz.f3) [.bool true] (by with_reducible repeat (first | exact rq_here | apply rq_then | apply rq_block)) rfl ⟨rfl, trivial⟩ ?_
          intro w' hs'
          exact ⟨rfl, hs'.none⟩
end Go.Proofs.YtilcdghliigngaaGreatDoor
namespace Go.Proofs.YtilcdghliigngaaGreatDoor
open Go.RowKit Go.Proofs.YtilcdghliigngaaGreatDoorGl Go.Proofs.YtilcdghliigngaaGreatDoorPm Go.Deep Go.Joins Go.ChangeShapes Go.WideShapes
set_option linter.unusedVariables false
set_option linter.unusedSimpArgs false
section
variable {H : Type} (en : TypeId × Value → H) (P : Program) (w : World) (base : Nat) (spare : Nat → Bool) (held : Bool)
def Rds (t : TypeId) {α : Type} (e : α → List Value) (ok okW : α → Prop) : Prop :=
  ∀ fuel cs x, DataW.trod en P w base spare held fuel t cs = some x → ∃ a : α, cs = e a ∧ ok a ∧ ((∀ z ∈ x.1.weights P t, z ≤ reachBytes) → okW a)
variable {en P w base spare held}
theorem Rds.map {t : TypeId} {α β : Type} {e : α → List Value} {ok okW : α → Prop} (h : Rds en P w base spare held t e ok okW) (f : α → β) {e' : β → List Value} {ok' okW' : β → Prop} (he : ∀ a, e' (f a) = e a) (h1 : ∀ a, ok a → ok' (f a)) (h2 : ∀ a, okW a → okW' (f a)) : Rds en P w base spare held t e' ok' okW' := fun fuel cs x hx => by
  obtain ⟨a, rfl, k1, k2⟩ := h fuel cs x hx
  exact ⟨f a, (he a).symm, h1 a k1, fun hw => h2 a (k2 hw)⟩
theorem list_choose {α : Type} {p : Nat → α → Prop} : ∀ {n : Nat}, (∀ i, i < n → ∃ x, p i x) → ∃ xs : List α, xs.length = n ∧ ∀ i x, xs[i]? = some x → p i x
  | 0, _ => ⟨[], rfl, fun i x h => by simp at h⟩
  | n + 1, h => by
    obtain ⟨xs, hl, hx⟩ := list_choose (n := n) (fun i hi => h i (by omega))
    obtain ⟨y, hy⟩ := h n (by omega)
    refine ⟨xs ++ [y], by simp [hl], fun i x hi => ?_⟩
    by_cases hlt : i < xs.length
    · rw [List.getElem?_append_left hlt] at hi; exact hx i x hi
    · rw [List.getElem?_append_right (by omega)] at hi
      by_cases h0 : i - xs.length = 0
      · rw [h0] at hi; simp at hi; subst hi
        rw [show i = n by omega]; exact hy
      · rw [List.getElem?_eq_none (by simp; omega)] at hi; cases hi
theorem fm_split_at {α : Type} {e : α → List Value} {sz : Nat} (he : ∀ a, (e a).length = sz) : ∀ {xs : List α} {j : Nat} {u : Value}, (xs.flatMap e)[j]? = some u → ∃ i x r, xs[i]? = some x ∧ (e x)[r]? = some u ∧ j = i * sz + r
  | [], j, u, h => by simp at h
  | x :: xs, j, u, h => by
    rw [List.flatMap_cons] at h
    by_cases hj : j < (e x).length
    · rw [List.getElem?_append_left hj] at h
      exact ⟨0, x, j, rfl, h, by omega⟩
    · rw [List.getElem?_append_right (by omega)] at h
      obtain ⟨i, y, r, h1, h2, h3⟩ := fm_split_at he h
      refine ⟨i + 1, y, r, by simpa using h1, h2, ?_⟩
      rw [he] at h3 hj
      rw [Nat.succ_mul]; omega
theorem weights_elem {e : TypeId} {d : DataW H} : ∀ {ds : List (DataW H)}, d ∈ ds → ∀ z ∈ d.weights P e, z ∈ DataW.weightsAll P e ds
  | [], h, _, _ => by cases h
  | x :: ds, h, z, hz => by
    rw [DataW.weightsAll]
    rcases List.mem_cons.1 h with rfl | h
    · exact List.mem_append_left _ hz
    · exact List.mem_append_right _ (weights_elem h z hz)
theorem rds_slice {t e : TypeId} {α : Type} {eE : α → List Value} {ok okW : α → Prop} (ht : P.underlying t = some (.slice e)) (hz : ∀ a, (eE a).length = P.cellsOf e) (hR : Rds en P w base spare held e eE ok okW) :
    Rds en P w base spare held t (fun l : (Option Addr × Nat) × List α => [.slice l.1.1 l.2.length l.1.2]) (fun l => RoL w l.1.1 eE l.2 ∧ l.2.length ≤ l.1.2 ∧ ∀ x ∈ l.2, ok x) (fun l => l.2.length * P.bytesOf e ≤ reachBytes ∧ ∀ x ∈ l.2, okW x) := fun fuel cs x hx => by
  rcases open_slice ht hx with ⟨rfl, rfl⟩ | ⟨a, len, cap, m, n, D, Pl, rfl, hb, hl, hm, hmm, rfl, hel⟩
  · exact ⟨((none, 0), []), rfl, ⟨Ro.nil _ _, Nat.le_refl _, fun x h => by cases h⟩, fun _ => ⟨by simp, fun x h => by cases h⟩⟩
  · have hlm : len ≤ m := by rw [hmm]; split <;> omega
    obtain ⟨xs, hxl, hxs⟩ := list_choose (n := len) (p := fun i (y : α) => w.cells? base (a.add (i * P.cellsOf e)) (P.cellsOf e) = some (eE y) ∧ ok y ∧ ((∀ z ∈ (D i).weights P e, z ≤ reachBytes) → okW y)) (fun i hi => by
      obtain ⟨cs', h1, h2⟩ := hel i (by omega)
      obtain ⟨y, rfl, k1, k2⟩ := hR n cs' _ h2
      exact ⟨y, h1, k1, k2⟩)
    subst hxl
    refine ⟨((some a, cap), xs), rfl, ⟨?_, hl, fun y hy => ?_⟩, fun hw => ⟨?_, fun y hy => ?_⟩⟩
    · intro j u hu
      obtain ⟨i, y, r, h1, h2, rfl⟩ := fm_split_at hz hu
      obtain ⟨h3, _, _⟩ := hxs i y h1
      obtain ⟨_, _, h5⟩ := World.cells?_some h3
      have hr : r < P.cellsOf e := by rw [← hz y]; exact (List.getElem?_eq_some_iff.1 h2).1
      have h6 := h5 r hr
      rw [h2] at h6
      obtain ⟨b, off, spot⟩ := a
      have hlt : i < xs.length := (List.getElem?_eq_some_iff.1 h1).1
      obtain ⟨y0, hy0⟩ : ∃ y0, xs[0]? = some y0 := ⟨_, List.getElem?_eq_getElem (by omega)⟩
      obtain ⟨_, _, g5⟩ := World.cells?_some (hxs 0 y0 hy0).1
      have g6 := g5 0 (by omega)
      obtain ⟨v0, hv0⟩ : ∃ v0, (eE y0)[0]? = some v0 := ⟨_, List.getElem?_eq_getElem (by rw [hz]; omega)⟩
      rw [hv0] at g6
      have hs : spot = none := by have := World.cell?_spot g6; simpa [Addr.add] using this
      subst hs
      rw [add_at, add_at] at h6
      exact ⟨b, off, rfl, by rw [← h6, Nat.add_assoc]⟩
    · obtain ⟨i, hi⟩ := List.mem_iff_getElem?.1 hy
      exact (hxs i y hi).2.1
    · have := hw ((xs.length + (m - xs.length)) * P.bytesOf e) (by simp [DataW.weights, ht])
      exact Nat.le_trans (Nat.mul_le_mul_right _ (show xs.length ≤ xs.length + (m - xs.length) by omega)) this
    · obtain ⟨i, hi⟩ := List.mem_iff_getElem?.1 hy
      refine (hxs i y hi).2.2 (fun z hz' => hw z ?_)
      simp only [DataW.weights, ht]
      refine List.mem_cons_of_mem _ (List.mem_append_left _ (weights_elem (d := D i) (List.mem_map.2 ⟨i, List.mem_range.2 (List.getElem?_eq_some_iff.1 hi).1, rfl⟩) z hz'))
theorem rds_u8 {t : TypeId} (ht : P.underlying t = some (.int .u8)) : Rds en P w base spare held t eU8 (fun x => 0 ≤ x ∧ x ≤ 255) (fun _ => True) := fun fuel cs x hx => by
  obtain ⟨n, rfl, _, hw⟩ := DataW.trod_int ht hx
  exact ⟨n, rfl, bounds_u8 hw, fun _ => trivial⟩
theorem trod_struct6 {t : TypeId} {f0 f1 f2 f3 f4 f5 : Field} {fuel : Nat} {cs : List Value} {x : DataW H × List MemPlace} (ht : P.underlying t = some (.struct #[f0, f1, f2, f3, f4, f5])) (h : DataW.trod en P w base spare held fuel t cs = some x) :
    ∃ y0 y1 y2 y3 y4 y5 n, cs.length = P.cellsOf t ∧ DataW.trod en P w base spare held n f0.type ((cs.drop f0.offset).take (P.cellsOf f0.type)) = some y0 ∧
      DataW.trod en P w base spare held n f1.type ((cs.drop f1.offset).take (P.cellsOf f1.type)) = some y1 ∧ DataW.trod en P w base spare held n f2.type ((cs.drop f2.offset).take (P.cellsOf f2.type)) = some y2 ∧
      DataW.trod en P w base spare held n f3.type ((cs.drop f3.offset).take (P.cellsOf f3.type)) = some y3 ∧ DataW.trod en P w base spare held n f4.type ((cs.drop f4.offset).take (P.cellsOf f4.type)) = some y4 ∧ DataW.trod en P w base spare held n f5.type ((cs.drop f5.offset).take (P.cellsOf f5.type)) = some y5 := by
  obtain ⟨xs, n, _, rfl, hl, hlen, hf⟩ := DataW.trod_struct ht h
  match xs, hlen with
  | [y0, y1, y2, y3, y4, y5], _ => exact ⟨y0, y1, y2, y3, y4, y5, n, hl, by simpa using hf 0 f0 rfl, by simpa using hf 1 f1 rfl, by simpa using hf 2 f2 rfl, by simpa using hf 3 f3 rfl, by simpa using hf 4 f4 rfl, by simpa using hf 5 f5 rfl⟩
theorem open_table {t : TypeId} {f0 f1 f2 f3 f4 f5 : Field} {r : Reach} {b0 : Nat} {v : Value} {d : DataW H} {p : List MemPlace} (hs : P.underlying t = some (.struct #[f0, f1, f2, f3, f4, f5])) (hone : oneCellFields P #[f0, f1, f2, f3, f4, f5] = true) (hC : P.cellsOf t = 6)
    {eb : TypeId} (u0 : P.underlying f0.type = some (.int .u8)) (u1 : P.underlying f1.type = some (.int .u8)) (u2 : P.underlying f2.type = some (.slice eb)) (u3 : P.underlying f3.type = some (.int .u8)) (u4 : P.underlying f4.type = some (.int .u64)) (u5 : P.underlying f5.type = some (.slice eb)) (ue : P.underlying eb = some (.int .u8)) (ce : P.cellsOf eb = 1)
    (hv : Value.okWide P w r b0 t v) (h : DataW.Trod en P w base spare held t v d p) :
    ∃ (a b d' m : Int) (ta wa : Option Addr) (tc wc : Nat) (bs cs5 : List Int), v = .agg [.int .u8 a, .int .u8 b, .slice ta bs.length tc, .int .u8 d', .int .u64 m, .slice wa cs5.length wc].toArray ∧ (0 ≤ a ∧ a ≤ 255) ∧ (0 ≤ b ∧ b ≤ 255) ∧ (0 ≤ d' ∧ d' ≤ 255) ∧ 0 ≤ m ∧ (∀ x ∈ bs, 0 ≤ x ∧ x ≤ 255) ∧ (∀ x ∈ cs5, 0 ≤ x ∧ x ≤ 255) ∧ RoL w ta eU8 bs ∧ RoL w wa eU8 cs5 := by
  obtain ⟨cs, rfl, hsz⟩ := okWide_struct hs hv
  obtain ⟨fuel, hf⟩ := h
  obtain ⟨y0, y1, y2, y3, y4, y5, n, hl, g0, g1, g2, g3, g4, g5⟩ := trod_struct6 hs hf
  obtain ⟨o0, k0⟩ := hone_of hone 0 f0 rfl
  obtain ⟨o1, k1⟩ := hone_of hone 1 f1 rfl
  obtain ⟨o2, k2⟩ := hone_of hone 2 f2 rfl
  obtain ⟨o3, k3⟩ := hone_of hone 3 f3 rfl
  obtain ⟨o4, k4⟩ := hone_of hone 4 f4 rfl
  obtain ⟨o5, k5⟩ := hone_of hone 5 f5 rfl
  rw [hC] at hsz
  obtain ⟨l⟩ := cs
  have hl6 : l.length = 6 := hsz
  match l, hl6 with
  | [c0, c1, c2, c3, c4, c5], _ =>
    rw [o0, k0] at g0; rw [o1, k1] at g1; rw [o2, k2] at g2; rw [o3, k3] at g3; rw [o4, k4] at g4; rw [o5, k5] at g5
    obtain ⟨a, ea, _, wa'⟩ := DataW.trod_int u0 g0
    obtain ⟨b, eb', _, wb⟩ := DataW.trod_int u1 g1
    obtain ⟨d', ed, _, wd⟩ := DataW.trod_int u3 g3
    obtain ⟨m, em, _, wm⟩ := DataW.trod_int u4 g4
    obtain ⟨l2, e2, ⟨r2, _, b2⟩, _⟩ := rds_slice u2 (fun _ => by rw [ce]; rfl) (rds_u8 ue) n _ _ g2
    obtain ⟨l5, e5, ⟨r5, _, b5⟩, _⟩ := rds_slice u5 (fun _ => by rw [ce]; rfl) (rds_u8 ue) n _ _ g5
    simp [Value.cells] at ea eb' ed em e2 e5
    refine ⟨a, b, d', m, l2.1.1, l5.1.1, l2.1.2, l5.1.2, l2.2, l5.2, ?_, bounds_u8 wa', bounds_u8 wb, bounds_u8 wd, (bounds_u64 wm).1, b2, b5, r2, r5⟩
    rw [ea, eb', ed, em, e2, e5]
end
end Go.Proofs.YtilcdghliigngaaGreatDoor
