/- Part of a claim: the program logic, the contracts of the functions, their models. No condition. -/
import Derived.WalkKit
import Derived.OwnWalkIn
import Derived.TacticsInMore
import Derived.OrdersIn
import Derived.RangeFuncLeaves
import Derived.RangeFuncNested
import Derived.Maps.AppendAt
import Derived.Shelf.Abstract
import Derived.Test.YtilcdghliigngaaProg
import Derived.MapKept
import Derived.Laws.StructEq
import Derived.Laws.OwnMore
import Derived.RangeFuncRecord
import Derived.Lib.SliceRun
import Derived.Lib.AppendZeros
import Derived.Lib.AppendZerosOnto
import Derived.Lib.Overlaps
import Derived.Laws.Externs
import Derived.Test.YtilcdghliigngaaPj3
namespace Go.Proofs.Ytilcdghliigngaa
open Go.RowKit Go.Proofs.YtilcdghliigngaaGl Go.Proofs.YtilcdghliigngaaPm
set_option linter.unusedVariables false
set_option linter.unusedSimpArgs false
def insI {α : Type} (xs : List α) (i : Nat) (y : α) : List α := xs.take i ++ [y] ++ xs.drop i
theorem insI_len {α : Type} {xs : List α} {i : Nat} {y : α} (h : i ≤ xs.length) : (insI xs i y).length = xs.length + 1 := by
  simp only [insI, List.length_append, List.length_take, List.length_drop, List.length_cons, List.length_nil]; omega
theorem Ro.mid {w : World} {b o k : Nat} {X Z R : List Value} (h : Ro w (some ⟨b, o, none⟩) (X ++ Z ++ R)) (hk : X.length = k) : Ro w (some ⟨b, o + k, none⟩) Z := fun j u hu => by
  have hj := (List.getElem?_eq_some_iff.1 hu).1
  obtain ⟨b', o', he, hc⟩ := h (k + j) u (by
    rw [List.append_assoc, List.getElem?_append_right (by omega), hk, Nat.add_sub_cancel_left, List.getElem?_append_left hj]; exact hu)
  cases he
  exact ⟨b, o + k, rfl, by rw [Nat.add_assoc]; exact hc⟩
theorem grow3 {X R Y Z : List Value} {o o2 : Nat} (hX : X.length = o) (hY : o + Y.length = o2) (hR : R.length = Y.length + Z.length) :
    ((X ++ R).take o ++ Y ++ (X ++ R).drop (o + Y.length)).take o2 ++ Z ++ ((X ++ R).take o ++ Y ++ (X ++ R).drop (o + Y.length)).drop (o2 + Z.length) = X ++ Y ++ Z := by
  subst hX; subst hY
  have e1 : (X ++ R).take X.length = X := List.take_left
  have e2 : (X ++ R).drop (X.length + Y.length) = R.drop Y.length := by
    rw [← List.drop_drop, List.drop_left]
  rw [e1, e2]
  have e3 : (X ++ Y ++ R.drop Y.length).take (X.length + Y.length) = X ++ Y := by
    rw [← List.length_append]; exact List.take_left
  have e4 : (X ++ Y ++ R.drop Y.length).drop (X.length + Y.length + Z.length) = [] := List.drop_eq_nil_of_le (by simp only [List.length_append, List.length_drop]; omega)
  rw [e3, e4, List.append_nil]
theorem room3 {X Z zs Y : List Value} {o o2 : Nat} (hX : X.length = o) (hY : o + Y.length = o2) (hz : zs.length = Y.length) :
    ((X ++ Z ++ zs).take o2 ++ Z ++ (X ++ Z ++ zs).drop (o2 + Z.length)).take o ++ Y ++ ((X ++ Z ++ zs).take o2 ++ Z ++ (X ++ Z ++ zs).drop (o2 + Z.length)).drop (o + Y.length) = X ++ Y ++ Z := by
  subst hX; subst hY
  have e1 : (X ++ Z ++ zs).drop (X.length + Y.length + Z.length) = [] := List.drop_eq_nil_of_le (by simp only [List.length_append]; omega)
  rw [e1, List.append_nil]
  have hT : ((X ++ Z ++ zs).take (X.length + Y.length)).length = X.length + Y.length := by simp only [List.length_take, List.length_append]; omega
  have e2 : ((X ++ Z ++ zs).take (X.length + Y.length) ++ Z).take X.length = X := by
    rw [List.take_append_of_le_length (by omega), List.take_take, Nat.min_eq_left (by omega), List.append_assoc]; exact List.take_left
  have e3 : ((X ++ Z ++ zs).take (X.length + Y.length) ++ Z).drop (X.length + Y.length) = Z := by
    exact List.drop_left' hT
  rw [e2, e3]
theorem fm_split {α : Type} (f : α → List Value) (xs : List α) (i : Nat) : xs.flatMap f = (xs.take i).flatMap f ++ (xs.drop i).flatMap f := by
  rw [← List.flatMap_append, List.take_append_drop]
theorem insI_fm (xs : List Evt) (i : Nat) (y : Evt) : (insI xs i y).flatMap eEvt = (xs.take i).flatMap eEvt ++ eEvt y ++ (xs.drop i).flatMap eEvt := by
  rw [insI, List.flatMap_append, List.flatMap_append]; simp
theorem tk_len {xs : List Evt} {i : Nat} (h : i ≤ xs.length) : ((xs.take i).flatMap eEvt).length = i * 2 := by
  rw [fm_length eEvt_len, List.length_take, Nat.min_eq_left h]
theorem dr_len {xs : List Evt} {i : Nat} : ((xs.drop i).flatMap eEvt).length = (xs.length - i) * 2 := by
  rw [fm_length eEvt_len, List.length_drop]
theorem ovl_c {w0 w : World} {A R R' : List Atom} {vb rb o cap m lb cb vc vn : Nat} {cs cs' : List Value} (hs : Sat w0 w A) (hp : Pull A (row (some ⟨vb, 0, none⟩) vc 88 2 vn cs) R) (hq : Pull R (row (some ⟨rb, 0, none⟩) cap 88 2 m cs') R') (hc : 0 < cap) (la ca : Nat) :
    (callFunc 88 [.slice (some ⟨vb, 0, none⟩) la ca, .slice (some ⟨rb, o, none⟩) lb cb].toArray).run Try.prog w = .ok (.value (.bool false)) w := by
  obtain ⟨h1, h2⟩ := sat_shape hs hp
  obtain ⟨h3, h4⟩ := sat_shape ((hs.pull hp).drop) hq
  have hz : ∀ w, (Go.sizeOf 88).run Try.prog w = .ok 2 w := fun w => Go.Proofs.YtilcdghliigngaaGl.run_sizeOf sz_88
  rw [run_callFunc_extern Try.func88 (by kernel_rfl) (by kernel_rfl) (by kernel_rfl) (e := Extern.SlicesOverlaps.overlaps #[27, 27] #[4]) (by kernel_rfl),
    show [Value.slice (some ⟨vb, 0, none⟩) la ca, Value.slice (some ⟨rb, o, none⟩) lb cb].toArray = #[.slice (some ⟨vb, 0, none⟩) la ca, .slice (some ⟨rb, o, none⟩) lb cb] from rfl,
    Lib.run_overlaps_apart w 27 4 88 (elT_u el_27) 2 hz ⟨vb, 0, none⟩ ⟨rb, o, none⟩ la ca lb cb (sat_apart hs hp hq) 88 88 (vc * 2) (cap * 2) h1 h3 (by omega) (h2 0) (h2 (vc * 2))]
  rfl
theorem insert_c (a : Option Addr) (cap vb i : Nat) (xs : List Evt) (y : Evt) (w0 w : World) (F : List Atom) (hi : i ≤ xs.length) (hl : xs.length ≤ 1000000) (hs : Sat w0 w (row a cap 88 2 xs.length (xs.flatMap eEvt) :: row (some ⟨vb, 0, none⟩) 1 88 2 1 (eEvt y) :: F)) :
    Calls Try.prog 58 [.slice a xs.length cap, .int .i64 (i : Int), .slice (some ⟨vb, 0, none⟩) 1 1].toArray w fun e w' => ∃ p : Option Addr × Nat, e = .returned (.slice p.1 (insI xs i y).length p.2) ∧ Sat w0 w' (row p.1 p.2 88 2 (insI xs i y).length ((insI xs i y).flatMap eEvt) :: F) := by
  refine fstart Try.func58 rfl rfl hs ?_
  refine Cd.seq ?_
  refine Cd.region ?_
  refine Ops.q (q_asg rfl) ?_
  refine Ops.to rfl ?_
  refine Cd.seq ?_
  refine Cd.region ?_
  refine Ops.q (q_mv rfl) ?_
  refine Ops.q (q_mv rfl) ?_
  refine Ops.q (q_cut (k := i) el_27 sz_88 rfl rfl (by omega)) ?_
  refine Ops.to rfl ?_
  refine Cd.seq ?_
  refine Cd.region ?_
  refine Ops.q (q_mv rfl) ?_
  refine Ops.q (q_len esz_27 rfl) ?_
  refine Ops.q (q_asg rfl) ?_
  refine Ops.to rfl ?_
  refine Cd.seq ?_
  refine Cd.seq ?_
  refine Cd.region ?_
  refine Ops.q (q_mv rfl) ?_
  refine Ops.q (q_cmp rfl rfl (c_neq (by decide))) ?_
  refine Ops.to rfl ?_
  refine Cd.cond_f rfl ?_
  refine Cd.skipTo rfl ?_
  refine Cd.seq ?_
  refine Cd.region ?_
  refine Ops.q (q_mv rfl) ?_
  refine Ops.q (q_len esz_27 rfl) ?_
  refine Ops.q (q_asg rfl) ?_
  refine Ops.to rfl ?_
  refine Cd.seq ?_
  refine Cd.seq ?_
  refine Cd.region ?_
  refine Ops.q (q_mv rfl) ?_
  refine Ops.q (q_mv rfl) ?_
  by_cases he : (i : Int) = (xs.length : Int)
  · refine Ops.q (q_cmp rfl rfl (c_eq he)) ?_
    refine Ops.to rfl ?_
    refine Cd.cond_t rfl ?_
    refine Cd.seq ?_
    refine Cd.region ?_
    refine Ops.q (q_mv rfl) ?_
    refine Ops.q (q_mv rfl) ?_
    refine Ops.app (news := (eEvt y)) el_27 zsb_88 (by decide) rfl rfl (fun _ hs => hs.ownRo (.there .here)) (fun _ hs => (hs.pull (.there .here)).drop) (fun _ _ => .here) rfl (one rfl) (by omega) (by omega) ?_
    intro a1 c2
    refine Ops.q (q_asg rfl) ?_
    refine Ops.to rfl ?_
    refine Cd.rt (fn := Try.f58) [.slice a1 (xs.length + 1) c2] (by with_reducible repeat (first | exact rq_here | apply rq_then | apply rq_block)) rfl ⟨rfl, trivial⟩ ?_
    intro w' hs'
    have hil : i = xs.length := by omega
    refine ⟨(a1, c2), by rw [insI_len hi]; rfl, ?_⟩
    rw [insI_len hi, insI_fm, List.take_of_length_le (show xs.length ≤ i by omega), List.drop_eq_nil_of_le (show xs.length ≤ i by omega), List.flatMap_nil, List.append_nil]
    exact (hs'.pull .here)
  · refine Ops.q (q_cmp rfl rfl (c_neq he)) ?_
    refine Ops.rowpos .here (by omega) ?_
    rintro rb rfl
    refine Ops.rowle .here (fun hle => ?_)
    have htl := tk_len (xs := xs) (i := i) hi
    have hdl := dr_len (xs := xs) (i := i)
    have hll := eEvt_len y
    refine Ops.to rfl ?_
    refine Cd.cond_f rfl ?_
    refine Cd.skipTo rfl ?_
    refine Cd.seq ?_
    refine Cd.seq ?_
    refine Cd.region ?_
    refine Ops.q (q_mv rfl) ?_
    refine Ops.q (q_mv rfl) ?_
    refine Ops.q (q_ar rfl rfl (a_inc (by omega))) ?_
    refine Ops.q (q_mv rfl) ?_
    refine Ops.q (q_cap el_27 rfl) ?_
    by_cases hroom : (cap : Int) < ((xs.length + 1 : Nat) : Int)
    · refine Ops.q (q_cmp rfl rfl (c_gt hroom)) ?_
      refine Ops.to rfl ?_
      refine Cd.cond_t rfl ?_
      refine Cd.seq ?_
      refine Cd.region ?_
      refine Ops.q (q_mv rfl) ?_
      refine Ops.q (q_mv rfl) ?_
      refine Ops.q (q_cutHP (k := i) el_27 sz_88 rfl rfl (by omega)) ?_
      refine Ops.q (q_mv rfl) ?_
      refine Ops.q (q_mv rfl) ?_
      refine Ops.q (q_ar rfl rfl (a_inc (by omega))) ?_
      refine Ops.q (q_mv rfl) ?_
      refine Ops.q (q_ar (v := ((xs.length + 1 - i : Nat) : Int)) rfl rfl ((by rw [a_sub (by omega)]; congr 1; omega))) ?_
      refine Ops.appzQ (m := i) (k := xs.length + 1 - i) (q := xs.length + 1) (olds := ((xs.take i).flatMap eEvt)) el_27 iK_3 zsb_88 (by decide) rfl rfl (by omega) (by omega) (by omega) (fun _ hs => RoL.take (hs.ownRo .here) i) htl (by omega) (by omega) ?_
      intro nb nc hnc
      have hrl : (rep (xs.length + 1 - i) [.int .i64 0, .int .i64 0]).length = (xs.length + 1 - i) * 2 := rep_length _ _
      refine Ops.q (q_asg rfl) ?_
      refine Ops.to rfl ?_
      refine Cd.seq ?_
      refine Cd.region ?_
      refine Ops.q (q_mv rfl) ?_
      refine Ops.q (q_mv rfl) ?_
      refine Ops.q (q_cutP (k := i) el_27 sz_88 rfl rfl (by omega) (by omega)) ?_
      refine Ops.q (q_mv rfl) ?_
      refine Ops.cpy (k := 1) (news := (eEvt y)) (cs' := ((((xs.take i).flatMap eEvt) ++ rep (xs.length + 1 - i) [.int .i64 0, .int .i64 0]).take (0 + i * 2) ++ (eEvt y) ++ (((xs.take i).flatMap eEvt) ++ rep (xs.length + 1 - i) [.int .i64 0, .int .i64 0]).drop (0 + i * 2 + (eEvt y).length))) el_27 sz_88 rfl rfl (by omega) (fun _ hs => hs.ownRo (.there (.there .here))) (rfl) (one rfl) .here (by simp only [List.length_append, List.length_take, List.length_drop, htl, hdl, hll, hrl]; omega) rfl ?_
      refine Ops.to rfl ?_
      refine Cd.seq ?_
      refine Cd.draw rfl (by kernel_rfl) .nil ?_
      intro F3 St4 hP5 hF6 hR7
      refine Dr.q (i := 0) hP5 rfl (by kernel_rfl) (q_mv rfl) ?_
      refine Dr.q (i := 1) hP5 rfl (by kernel_rfl) (q_mv rfl) ?_
      refine Dr.q (i := 2) hP5 rfl (by kernel_rfl) (q_mv rfl) ?_
      refine Dr.q (i := 3) hP5 rfl (by kernel_rfl) (q_ar (v := ((i + 1 : Nat) : Int)) rfl rfl (a_inc (by omega))) ?_
      refine Dr.q (i := 4) hP5 rfl (by kernel_rfl) (q_cutP (k := i + 1) el_27 sz_88 rfl rfl (by omega) (by omega)) ?_
      refine Dr.q (i := 5) hP5 rfl (by kernel_rfl) (q_mv rfl) ?_
      refine Dr.q (i := 6) hP5 rfl (by kernel_rfl) (q_mv rfl) ?_
      refine Dr.q (i := 7) hP5 rfl (by kernel_rfl) (q_cutP (k := i) el_27 sz_88 rfl rfl (by omega) (by omega)) ?_
      refine Dr.e (i := 8) rfl (by kernel_rfl) ?_
      refine Ops.cpy (k := xs.length - i) (news := ((xs.drop i).flatMap eEvt)) (cs' := (((((xs.take i).flatMap eEvt) ++ rep (xs.length + 1 - i) [.int .i64 0, .int .i64 0]).take (0 + i * 2) ++ (eEvt y) ++ (((xs.take i).flatMap eEvt) ++ rep (xs.length + 1 - i) [.int .i64 0, .int .i64 0]).drop (0 + i * 2 + (eEvt y).length)).take (0 + (i + 1) * 2) ++ ((xs.drop i).flatMap eEvt) ++ ((((xs.take i).flatMap eEvt) ++ rep (xs.length + 1 - i) [.int .i64 0, .int .i64 0]).take (0 + i * 2) ++ (eEvt y) ++ (((xs.take i).flatMap eEvt) ++ rep (xs.length + 1 - i) [.int .i64 0, .int .i64 0]).drop (0 + i * 2 + (eEvt y).length)).drop (0 + (i + 1) * 2 + ((xs.drop i).flatMap eEvt).length))) el_27 sz_88 rfl rfl (by omega) (fun _ hs => Ro.mid (X := (xs.take i).flatMap eEvt) (R := []) (by rw [List.append_nil, ← fm_split]; exact hs.ownRo (.there (.there .here))) htl) (hdl) (fm_one eEvt_one _) (.there .here) (by simp only [List.length_append, List.length_take, List.length_drop, htl, hdl, hll, hrl]; omega) rfl ?_
      refine Dr.back (fun _ hs => hF6 .here hs) ?_
      refine Dr.tail 9 (by kernel_rfl) ?_
      refine Ops.sat ?_ (fun _ hs => hR7 .here hs)
      refine Ops.to rfl ?_
      refine Cd.seq ?_
      refine Cd.region ?_
      refine Ops.q (q_mv rfl) ?_
      refine Ops.q (q_asg rfl) ?_
      refine Ops.to rfl ?_
      refine Cd.rt (fn := Try.f58) [.slice (some ⟨nb, 0, none⟩) (xs.length + 1) nc] (by with_reducible repeat (first | exact rq_here | apply rq_then | apply rq_block)) rfl ⟨rfl, trivial⟩ ?_
      intro w' hs'
      refine ⟨(some ⟨nb, 0, none⟩, nc), by rw [insI_len hi]; rfl, ?_⟩
      rw [insI_len hi, insI_fm]
      have h9 := (((hs'.pull .here).pull (.there .here)).drop.pull (.there .here)).drop
      rw [grow3 (by rw [htl]; omega) (by rw [hll]; omega) (by rw [hrl, hll, hdl]; omega)] at h9
      exact h9
    · refine Ops.q (q_cmp rfl rfl (c_ngt (by omega))) ?_
      refine Ops.to rfl ?_
      refine Cd.cond_f rfl ?_
      refine Cd.skipTo rfl ?_
      refine Cd.seq ?_
      refine Cd.region ?_
      refine Ops.q (q_mv rfl) ?_
      refine Ops.q (q_mv rfl) ?_
      refine Ops.q (q_mv rfl) ?_
      refine Ops.q (q_ar rfl rfl (a_inc (by omega))) ?_
      refine Ops.q (q_cutHP (k := (xs.length + 1)) el_27 sz_88 rfl rfl (by omega)) ?_
      refine Ops.q (q_asg rfl) ?_
      refine Ops.to rfl ?_
      refine Cd.seq ?_
      refine Cd.seq ?_
      refine Cd.region ?_
      refine Ops.ext (k := 1) .here (by omega) ?_
      intro zs hzs
      rw [fm_split eEvt xs i]
      refine Ops.q (q_mv rfl) ?_
      refine Ops.q (q_mv rfl) ?_
      refine Ops.q (q_mv rfl) ?_
      refine Ops.q (q_mv rfl) ?_
      refine Ops.q (q_ar (v := ((i + 1 : Nat) : Int)) rfl rfl (a_inc (by omega))) ?_
      refine Ops.q (q_cutP (k := i + 1) el_27 sz_88 rfl rfl (by omega) (by omega)) ?_
      refine Ops.xt rfl (fun w hs => ovl_c hs (.there .here) .here (by omega) _ _) ?_
      refine Ops.q (q_not rfl) ?_
      refine Ops.to rfl ?_
      refine Cd.cond_t rfl ?_
      refine Cd.seq ?_
      refine Cd.draw rfl (by kernel_rfl) .nil ?_
      intro F8 St9 hP10 hF11 hR12
      refine Dr.q (i := 0) hP10 rfl (by kernel_rfl) (q_mv rfl) ?_
      refine Dr.q (i := 1) hP10 rfl (by kernel_rfl) (q_mv rfl) ?_
      refine Dr.q (i := 2) hP10 rfl (by kernel_rfl) (q_mv rfl) ?_
      refine Dr.q (i := 3) hP10 rfl (by kernel_rfl) (q_ar (v := ((i + 1 : Nat) : Int)) rfl rfl (a_inc (by omega))) ?_
      refine Dr.q (i := 4) hP10 rfl (by kernel_rfl) (q_cutP (k := i + 1) el_27 sz_88 rfl rfl (by omega) (by omega)) ?_
      refine Dr.q (i := 5) hP10 rfl (by kernel_rfl) (q_mv rfl) ?_
      refine Dr.q (i := 6) hP10 rfl (by kernel_rfl) (q_mv rfl) ?_
      refine Dr.q (i := 7) hP10 rfl (by kernel_rfl) (q_cutP (k := i) el_27 sz_88 rfl rfl (by omega) (by omega)) ?_
      refine Dr.e (i := 8) rfl (by kernel_rfl) ?_
      refine Ops.cpy (k := xs.length - i) (news := ((xs.drop i).flatMap eEvt)) (cs' := (((xs.take i).flatMap eEvt ++ (xs.drop i).flatMap eEvt ++ zs).take (0 + (i + 1) * 2) ++ ((xs.drop i).flatMap eEvt) ++ ((xs.take i).flatMap eEvt ++ (xs.drop i).flatMap eEvt ++ zs).drop (0 + (i + 1) * 2 + ((xs.drop i).flatMap eEvt).length))) el_27 sz_88 rfl rfl (by omega) (fun _ hs => Ro.mid (X := (xs.take i).flatMap eEvt) (R := zs) (hs.ownRo (.there .here)) htl) (hdl) (fm_one eEvt_one _) (.there .here) (by simp only [List.length_append, List.length_take, List.length_drop, htl, hdl, hll, hzs]; omega) rfl ?_
      refine Dr.back (fun _ hs => hF11 .here hs) ?_
      refine Dr.tail 9 (by kernel_rfl) ?_
      refine Ops.sat ?_ (fun _ hs => hR12 .here hs)
      refine Ops.to rfl ?_
      refine Cd.seq ?_
      refine Cd.region ?_
      refine Ops.q (q_mv rfl) ?_
      refine Ops.q (q_mv rfl) ?_
      refine Ops.q (q_cutP (k := i) el_27 sz_88 rfl rfl (by omega) (by omega)) ?_
      refine Ops.q (q_mv rfl) ?_
      refine Ops.cpy (k := 1) (news := (eEvt y)) (cs' := ((((xs.take i).flatMap eEvt ++ (xs.drop i).flatMap eEvt ++ zs).take (0 + (i + 1) * 2) ++ ((xs.drop i).flatMap eEvt) ++ ((xs.take i).flatMap eEvt ++ (xs.drop i).flatMap eEvt ++ zs).drop (0 + (i + 1) * 2 + ((xs.drop i).flatMap eEvt).length)).take (0 + i * 2) ++ (eEvt y) ++ (((xs.take i).flatMap eEvt ++ (xs.drop i).flatMap eEvt ++ zs).take (0 + (i + 1) * 2) ++ ((xs.drop i).flatMap eEvt) ++ ((xs.take i).flatMap eEvt ++ (xs.drop i).flatMap eEvt ++ zs).drop (0 + (i + 1) * 2 + ((xs.drop i).flatMap eEvt).length)).drop (0 + i * 2 + (eEvt y).length))) el_27 sz_88 rfl rfl (by omega) (fun _ hs => hs.ownRo (.there .here)) (rfl) (one rfl) .here (by simp only [List.length_append, List.length_take, List.length_drop, htl, hdl, hll, hzs]; omega) rfl ?_
      refine Ops.to rfl ?_
      refine Cd.seq ?_
      refine Cd.region ?_
      refine Ops.q (q_mv rfl) ?_
      refine Ops.q (q_asg rfl) ?_
      refine Ops.to rfl ?_
      refine Cd.rt (fn := Try.f58) [.slice (some ⟨rb, 0, none⟩) (xs.length + 1) cap] (by with_reducible repeat (first | exact rq_here | apply rq_then | apply rq_block)) rfl ⟨rfl, trivial⟩ ?_
      intro w' hs'
      refine ⟨((some ⟨rb, 0, none⟩), cap), by rw [insI_len hi]; rfl, ?_⟩
      rw [insI_len hi, insI_fm]
      have h9 := ((hs'.pull .here).pull (.there .here)).drop
      rw [room3 (by rw [htl]; omega) (by rw [hll]; omega) (by rw [hzs, hll])] at h9
      exact h9
end Go.Proofs.Ytilcdghliigngaa
namespace Go.Proofs.Ytilcdghliigngaa
open Go.RowKit Go.Proofs.YtilcdghliigngaaGl Go.Proofs.YtilcdghliigngaaPm
set_option linter.unusedVariables false
set_option linter.unusedSimpArgs false
def symE (n : Nat) (x : Int) : Int := if wi x 0 ((n : Int) - 1) then 0 else 4
def evW (ws : List Int) (k : Nat) : Evt := ⟨3 * (k : Int), ws.getD k 0⟩
def evsW (ws : List Int) (k : Nat) : List Evt := (List.range k).map (evW ws)
def wordP (nx : List (List Int)) (st : Int) (al : Nat) (ws : List Int) : Except Int (List Evt) :=
  if autoE nx st al ≠ 0 then .error (autoE nx st al)
  else if 3000 < ws.length then .error 8
  else if firstE (symE (nx.headD []).length) ws ≠ 0 then .error 4
  else .ok (insI (evsW ws ws.length) (min 1 ws.length) ⟨0, ((nx.headD []).length : Int)⟩)
def RetE (r : Except Int (List Evt)) (w : World) (e : Ending) (w' : World) : Prop :=
  match r with
  | .ok xs => ∃ p : Option Addr × Nat, e = .returned (.tuple #[.slice p.1 xs.length p.2, .int .i64 0]) ∧ Sat w w' [row p.1 p.2 88 2 xs.length (xs.flatMap eEvt)]
  | .error c => e = .returned (.tuple #[.slice none 0 0, .int .i64 c]) ∧ Sat w w' []
theorem evsW_step {ws : List Int} {k : Nat} {x : Int} (h : ws[k]? = some x) : evsW ws (k + 1) = evsW ws k ++ [⟨3 * (k : Int), x⟩] := by
  unfold evsW
  rw [rg_app]
  simp only [evW, getD_at h]
theorem evsW_len (ws : List Int) (k : Nat) : (evsW ws k).length = k := rg_len _ _
theorem symE_4 {n : Nat} {x : Int} (h : ¬ wi x 0 ((n : Int) - 1)) : symE n x = 4 := by unfold symE; rw [if_neg h]
theorem symE_0 {n : Nat} {x : Int} (h : wi x 0 ((n : Int) - 1)) : symE n x = 0 := by unfold symE; rw [if_pos h]
theorem insert_n (a : Option Addr) (cap vb i n : Nat) (xs : List Evt) (y : Evt) (hn : xs.length = n) (w0 w : World) (F : List Atom) (hi : i ≤ n) (hl : n ≤ 1000000) (hs : Sat w0 w (row a cap 88 2 n (xs.flatMap eEvt) :: row (some ⟨vb, 0, none⟩) 1 88 2 1 (eEvt y) :: F)) :
    Calls Try.prog 58 [.slice a n cap, .int .i64 (i : Int), .slice (some ⟨vb, 0, none⟩) 1 1].toArray w fun e w' => ∃ p : Option Addr × Nat, e = .returned (.slice p.1 (insI xs i y).length p.2) ∧ Sat w0 w' (row p.1 p.2 88 2 (insI xs i y).length ((insI xs i y).flatMap eEvt) :: F) := by
  subst hn; exact insert_c a cap vb i xs y w0 w F hi hl hs
theorem word_c (na : Option Addr) (nc : Nat) (ls : List NL) (st : Int) (aa : Option Addr) (al ac : Nat) (wa : Option Addr) (wc : Nat) (ws : List Int) (w : World) (hL : RoLL w na ls) (hW : RoL w wa eInt ws) : Calls Try.prog 18 [.agg [.slice na ls.length nc, .int .i64 st, .slice aa al ac].toArray, .slice wa ws.length wc].toArray w (RetE (wordP (ls.map (·.2)) st al ws) w) := by
  refine fstart Try.func18 rfl rfl (Sat.nil w) ?_
  refine Cd.seq ?_
  refine Cd.region ?_
  refine Ops.box [.slice na ls.length nc, .int .i64 st, .slice aa al ac] rfl rfl ?_
  intro b1
  refine Ops.q (q_asg rfl) ?_
  refine Ops.q (q_asg rfl) ?_
  refine Ops.to rfl ?_
  refine Cd.seq ?_
  refine Cd.seq ?_
  refine Cd.region ?_
  refine Ops.q (q_ldBN [.slice na ls.length nc, .int .i64 st, .slice aa al ac] isA_36 sz_36 rfl .here rfl) ?_
  refine Ops.cp en_47 rfl (fun w hs => acheck_c _ _ ls st _ al _ w (hL.later hs.below)) ?_
  refine Ops.q (q_asg rfl) ?_
  refine Ops.to rfl ?_
  refine Cd.seq ?_
  refine Cd.region ?_
  refine Ops.q (q_mv rfl) ?_
  by_cases h2 : autoE (ls.map (fun l : NL => l.2)) st al = 0
  · refine Ops.q (q_cmp rfl rfl (c_nne h2)) ?_
    have hae := h2
    obtain ⟨hw1, hal, hw3, hrow, hin⟩ := autoE_ok h2
    rw [List.length_map] at hw1 hal
    obtain ⟨l0, hl0⟩ : ∃ x, ls[0]? = some x := ⟨_, List.getElem?_eq_getElem (by unfold wi at hw1; omega)⟩
    have hhd : (ls.map (·.2)).headD [] = l0.2 := by cases ls with | nil => simp at hl0 | cons x xs => simp at hl0; subst hl0; rfl
    rw [hhd] at hw3 hrow
    have hs1 : 1 ≤ ls.length ∧ ls.length ≤ 32 := by unfold wi at hw1; omega
    have hk1 : 1 ≤ l0.2.length ∧ l0.2.length ≤ 16 := by unfold wi at hw3; omega
    obtain ⟨nb, no, rfl⟩ := RoL.pos hL.1 eNL_len hl0
    refine Ops.to rfl ?_
    refine Cd.cond_f rfl ?_
    refine Cd.skipTo rfl ?_
    refine Cd.seq ?_
    refine Cd.region ?_
    refine Ops.q (q_fa fo_36_0 rfl) ?_
    refine Ops.q (q_ldB isA_22 rfl .here rfl) ?_
    refine Ops.q (q_ix (k := 0) esz_22 rfl rfl (by omega)) ?_
    refine Ops.q (q_ldR isA_26 rfl (hL.1.at0 eNL_len hl0 rfl)) ?_
    refine Ops.q (q_len esz_26 rfl) ?_
    refine Ops.q (q_asg rfl) ?_
    refine Ops.to rfl ?_
    refine Cd.seq ?_
    refine Cd.seq ?_
    refine Cd.region ?_
    refine Ops.q (q_mv rfl) ?_
    refine Ops.q (q_len esz_26 rfl) ?_
    by_cases h3 : 3000 < (ws.length : Int)
    · refine Ops.q (q_cmp rfl rfl (c_gt h3)) ?_
      refine Ops.to rfl ?_
      refine Cd.cond_t rfl ?_
      refine Cd.seq ?_
      refine Cd.region ?_
      refine Ops.q (q_asg rfl) ?_
      refine Ops.q (q_asg rfl) ?_
      refine Ops.to rfl ?_
      refine Cd.rt (fn := Try.f18) [.slice none 0 0, .int .i64 8] (by with_reducible repeat (first | exact rq_here | apply rq_then | apply rq_block)) rfl ⟨rfl, rfl, trivial⟩ ?_
      intro w' hs'
      have hM : wordP (ls.map (·.2)) st al ws = (if 3000 < ws.length then .error 8 else if firstE (symE l0.2.length) ws ≠ 0 then .error 4 else .ok (insI (evsW ws ws.length) (min 1 ws.length) ⟨0, (l0.2.length : Int)⟩)) := by unfold wordP; rw [if_neg (by simpa using hae), hhd]
      rw [hM, if_pos (by omega)]
      exact ⟨rfl, hs'.none⟩
    · refine Ops.q (q_cmp rfl rfl (c_ngt (by omega))) ?_
      refine Ops.to rfl ?_
      refine Cd.cond_f rfl ?_
      refine Cd.skipTo rfl ?_
      refine Cd.seq ?_
      refine Cd.region ?_
      refine Ops.q (q_asg rfl) ?_
      refine Ops.to rfl ?_
      refine Cd.seq ?_
      refine Cd.seq ?_
      refine Cd.region ?_
      refine Ops.q (q_mv rfl) ?_
      refine Ops.q (q_len esz_26 rfl) ?_
      refine Ops.q (q_mv rfl) ?_
      refine Ops.to rfl ?_
      refine Cd.block ?_
      refine Cd.lp (σ := Nat × Option Addr × Nat) (fun s => s.1 ≤ ws.length ∧ firstE (symE l0.2.length) (ws.drop s.1) = firstE (symE l0.2.length) ws) (fun s => [(2, .pointer (some ⟨b1, 0, none⟩)), (7, .int .i64 (l0.2.length : Int)), (8, .slice s.2.1 s.1 s.2.2), (24, .slice wa ws.length wc), (25, .int .i64 (ws.length : Int)), (26, .int .i64 (s.1 : Int))]) (fun s => [blk b1 36 [.slice (some ⟨nb, no, none⟩) ls.length nc, .int .i64 st, .slice aa al ac], row s.2.1 s.2.2 88 2 s.1 ((evsW ws s.1).flatMap eEvt)]) (fun s => ws.length - s.1) (0, none, 0) ⟨Nat.zero_le _, rfl⟩ ⟨rfl, rfl, rfl, rfl, rfl, rfl, trivial⟩ (fun _ hs => by have h1 := ((hs.pull .here)).nilRow 88 2; exact h1.pull (.there .here)) ?_
      rintro ⟨k, pa, pc⟩ hI
      dsimp only at hI
      change Cd _ _ _ _ _ _ _ [(2, .pointer (some ⟨b1, 0, none⟩)), (7, .int .i64 (l0.2.length : Int)), (8, .slice pa k pc), (24, .slice wa ws.length wc), (25, .int .i64 (ws.length : Int)), (26, .int .i64 (k : Int))] ([blk b1 36 [.slice (some ⟨nb, no, none⟩) ls.length nc, .int .i64 st, .slice aa al ac], row pa pc 88 2 k ((evsW ws k).flatMap eEvt)])
      have hI1 := hI.1
      refine Cd.seq ?_
      refine Cd.region ?_
      by_cases hk : (k : Int) < (ws.length : Int)
      · refine Ops.q (q_cmp rfl rfl (c_lt hk)) ?_
        obtain ⟨x4, hx5⟩ : ∃ x, ws[k]? = some x := ⟨_, List.getElem?_eq_getElem (by omega)⟩
        obtain ⟨ab6, ao7, rfl⟩ := RoL.pos hW eInt_len hx5
        refine Ops.to rfl ?_
        refine Cd.seq ?_
        refine Cd.cond_t rfl ?_
        refine Cd.skipTo rfl ?_
        refine Cd.seq ?_
        refine Cd.block ?_
        refine Cd.seq ?_
        refine Cd.region ?_
        refine Ops.q (q_mv rfl) ?_
        refine Ops.q (q_ix (k := k) esz_26 rfl rfl (by omega)) ?_
        refine Ops.q (q_ldR isA_3 rfl (hW.at0 eInt_len hx5 rfl)) ?_
        refine Ops.q (q_asg rfl) ?_
        refine Ops.q (q_asg rfl) ?_
        refine Ops.to rfl ?_
        refine Cd.seq ?_
        refine Cd.seq ?_
        refine Cd.region ?_
        refine Ops.q (q_mv rfl) ?_
        refine Ops.q (q_mv rfl) ?_
        refine Ops.q (q_ar (v := (l0.2.length : Int) - 1) rfl rfl (a_sub (by omega))) ?_
        by_cases h8 : wi x4 0 ((l0.2.length : Int) - 1)
        · refine Ops.cp en_57 rfl (fun w hs => dT (in_c _ _ _ w) h8) ?_
          refine Ops.q (q_not rfl) ?_
          refine Ops.to rfl ?_
          refine Cd.cond_f rfl ?_
          refine Cd.skipTo rfl ?_
          refine Cd.region ?_
          refine Ops.q (q_mv rfl) ?_
          refine Ops.q (q_mv rfl) ?_
          refine Ops.q (q_ar rfl rfl (a_mul (by omega))) ?_
          refine Ops.q (q_mv rfl) ?_
          refine Ops.q (q_bld [.int .i64 (3 * (k : Int)), .int .i64 x4] pls_88 zc_88 rfl rfl) ?_
          refine Ops.lit [.int .i64 (3 * (k : Int)), .int .i64 x4] el_27 zsb_88 rfl rfl ⟨by decide, by decide⟩ rfl ?_
          intro b9
          refine Ops.app (news := [.int .i64 (3 * (k : Int)), .int .i64 x4]) el_27 zsb_88 (by decide) rfl rfl (fun _ hs => hs.ownRo .here) (fun _ hs => (hs.pull .here).drop) (fun _ _ => (.there .here)) rfl (one rfl) (by omega) (by omega) ?_
          intro a10 c11
          refine Ops.q (q_asg rfl) ?_
          refine Ops.to rfl ?_
          refine Cd.region ?_
          refine Ops.q (q_ar rfl rfl (a_inc (by omega))) ?_
          refine Ops.q (q_mv rfl) ?_
          refine Ops.rnd ((k + 1, a10, c11)) rfl (by dsimp only; exact (⟨by omega, by rw [← hI.2]; exact (firstE_step hx5 (symE_0 h8)).symm⟩)) (by dsimp only; omega) ⟨rfl, rfl, rfl, rfl, rfl, rfl, trivial⟩ (fun _ hs => by have h1 := ((hs.pull (.there .here)).pull (.there .here)); (try dsimp only); rw [evsW_step hx5, fm_app]; exact h1) 
        · refine Ops.cp en_57 rfl (fun w hs => dF (in_c _ _ _ w) h8) ?_
          refine Ops.q (q_not rfl) ?_
          refine Ops.to rfl ?_
          refine Cd.cond_t rfl ?_
          refine Cd.seq ?_
          refine Cd.region ?_
          refine Ops.q (q_asg rfl) ?_
          refine Ops.q (q_asg rfl) ?_
          refine Ops.to rfl ?_
          refine Cd.rt (fn := Try.f18) [.slice none 0 0, .int .i64 4] (by with_reducible repeat (first | exact rq_here | apply rq_then | apply rq_block)) rfl ⟨rfl, rfl, trivial⟩ ?_
          intro w' hs'
          have hM : wordP (ls.map (·.2)) st al ws = (if 3000 < ws.length then .error 8 else if firstE (symE l0.2.length) ws ≠ 0 then .error 4 else .ok (insI (evsW ws ws.length) (min 1 ws.length) ⟨0, (l0.2.length : Int)⟩)) := by unfold wordP; rw [if_neg (by simpa using hae), hhd]
          have h9 : firstE (symE l0.2.length) ws = 4 := by rw [← hI.2, firstE_stop hx5 (by rw [symE_4 h8]; decide), symE_4 h8]
          rw [hM, if_neg (by omega), h9, if_pos (by decide)]
          exact ⟨rfl, hs'.none⟩
      · refine Ops.q (q_cmp rfl rfl (c_nlt (by omega))) ?_
        refine Ops.to rfl ?_
        refine Cd.seq ?_
        refine Cd.cond_f rfl ?_
        refine Cd.exitTo rfl ?_
        refine Cd.seq ?_
        refine Cd.region ?_
        refine Ops.q (q_mv rfl) ?_
        refine Ops.q (q_mv rfl) ?_
        refine Ops.q (q_len esz_27 rfl) ?_
        refine Ops.q (q_min rfl rfl) ?_
        rw [show min (1 : Int) (k : Int) = ((min 1 k : Nat) : Int) by omega]
        refine Ops.q (q_mv rfl) ?_
        refine Ops.q (q_bld [.int .i64 0, .int .i64 (l0.2.length : Int)] pls_88 zc_88 rfl rfl) ?_
        refine Ops.lit [.int .i64 0, .int .i64 (l0.2.length : Int)] el_27 zsb_88 rfl rfl ⟨by decide, by decide⟩ rfl ?_
        intro b12
        refine Ops.cm (α := Option Addr × Nat) (v := fun p => .slice p.1 (insI (evsW ws k) (min 1 k) (⟨0, (l0.2.length : Int)⟩ : Evt)).length p.2) (A' := fun p => row p.1 p.2 88 2 (insI (evsW ws k) (min 1 k) (⟨0, (l0.2.length : Int)⟩ : Evt)).length ((insI (evsW ws k) (min 1 k) (⟨0, (l0.2.length : Int)⟩ : Evt)).flatMap eEvt) :: [blk b1 36 [.slice (some ⟨nb, no, none⟩) ls.length nc, .int .i64 st, .slice aa al ac]]) en_58 rfl (fun w hs => insert_n pa pc b12 (min 1 k) k (evsW ws k) (⟨0, (l0.2.length : Int)⟩ : Evt) (evsW_len _ _) _ w _ (by omega) (by omega) ((((hs.pull (.there .here)).pull (.there .here)).pull (.there (.there .here))))) ?_
        rintro ⟨ia, ic⟩
        refine Ops.q (q_asg rfl) ?_
        refine Ops.q (q_asg rfl) ?_
        refine Ops.to rfl ?_
        refine Cd.rt (fn := Try.f18) [.slice ia ((insI (evsW ws k) (min 1 k) (⟨0, (l0.2.length : Int)⟩ : Evt)).length) ic, .int .i64 0] (by with_reducible repeat (first | exact rq_here | apply rq_then | apply rq_block)) rfl ⟨rfl, rfl, trivial⟩ ?_
        intro w' hs'
        have hM : wordP (ls.map (·.2)) st al ws = (if 3000 < ws.length then .error 8 else if firstE (symE l0.2.length) ws ≠ 0 then .error 4 else .ok (insI (evsW ws ws.length) (min 1 ws.length) ⟨0, (l0.2.length : Int)⟩)) := by unfold wordP; rw [if_neg (by simpa using hae), hhd]
        have h9 : firstE (symE l0.2.length) ws = 0 := by rw [← hI.2, firstE_end (by omega)]
        rw [hM, if_neg (by omega), h9, if_neg (by decide)]
        have hk : k = ws.length := by omega
        subst hk
        exact ⟨(ia, ic), rfl, hs'.only .here⟩
  · refine Ops.q (q_cmp rfl rfl (c_ne h2)) ?_
    refine Ops.to rfl ?_
    refine Cd.cond_t rfl ?_
    refine Cd.seq ?_
    refine Cd.region ?_
    refine Ops.q (q_mv rfl) ?_
    refine Ops.q (q_asg rfl) ?_
    refine Ops.q (q_asg rfl) ?_
    refine Ops.to rfl ?_
    refine Cd.rt (fn := Try.f18) [.slice none 0 0, .int .i64 (autoE (ls.map (fun l : NL => l.2)) st al)] (by with_reducible repeat (first | exact rq_here | apply rq_then | apply rq_block)) rfl ⟨rfl, rfl, trivial⟩ ?_
    intro w' hs'
    rw [show wordP (ls.map (·.2)) st al ws = .error (autoE (ls.map (·.2)) st al) by unfold wordP; rw [if_pos h2]]
    exact ⟨rfl, hs'.none⟩
end Go.Proofs.Ytilcdghliigngaa
namespace Go.Proofs.Ytilcdghliigngaa
open Go.RowKit Go.Proofs.YtilcdghliigngaaGl Go.Proofs.YtilcdghliigngaaPm
set_option linter.unusedVariables false
set_option linter.unusedSimpArgs false
end Go.Proofs.Ytilcdghliigngaa
namespace Go.Proofs.Ytilcdghliigngaa
open Go.RowKit Go.Proofs.YtilcdghliigngaaGl Go.Proofs.YtilcdghliigngaaPm
set_option linter.unusedVariables false
set_option linter.unusedSimpArgs false
def hN (s k j : Nat) : Int := if s ≤ j ∧ j < s + s * k then 2 else 1
def mNs (s k i : Nat) : List Prm := (List.range i).map fun j => gateP (hN s k j)
theorem mNs_len (s k i : Nat) : (mNs s k i).length = i := rg_len _ _
end Go.Proofs.Ytilcdghliigngaa
namespace Go.Proofs.Ytilcdghliigngaa
open Go.RowKit Go.Proofs.YtilcdghliigngaaGl Go.Proofs.YtilcdghliigngaaPm
set_option linter.unusedVariables false
set_option linter.unusedSimpArgs false
theorem mpT_166 : mpT Try.prog 166 = some (3, 4) := by kernel_rfl
theorem zero_4 : ∀ w, (zeroValue 4).run Try.prog w = .ok (.bool false) w := fun w => by kernel_rfl
def setE (n : Int) (xs : List Int) : Int := if ∀ x ∈ xs, wi x 0 (n - 1) then (if xs.Nodup then 0 else 5) else 4
def mtk (xs : List Int) : List (Int × Value) := xs.map fun x => (x, .bool true)
theorem findI_mtk (k : Int) : ∀ (xs : List Int) (i : Nat), (k ∈ xs → ∃ j, findI k (mtk xs) i = some (j, .bool true)) ∧ (¬ k ∈ xs → findI k (mtk xs) i = none)
  | [], i => ⟨fun h => by simp at h, fun _ => rfl⟩
  | x :: xs, i => by
    have ih := findI_mtk k xs (i + 1)
    by_cases h : k = x
    · subst h
      exact ⟨fun _ => ⟨i, by simp [mtk, findI]⟩, fun h => by simp at h⟩
    · have e : findI k (mtk (x :: xs)) i = findI k (mtk xs) (i + 1) := by simp [mtk, findI, h]
      rw [e]
      exact ⟨fun hm => ih.1 (by simpa [h] using hm), fun hm => ih.2 (fun h2 => hm (.tail _ h2))⟩
theorem looki_in {k : Int} {xs : List Int} (h : k ∈ xs) : looki (mtk xs) k = some (.bool true) := by
  obtain ⟨j, hj⟩ := (findI_mtk k xs 0).1 h
  simp [looki, hj]
theorem looki_out {k : Int} {xs : List Int} (h : ¬ k ∈ xs) : looki (mtk xs) k = none := by
  simp [looki, (findI_mtk k xs 0).2 h]
theorem updI_out {k : Int} {xs : List Int} (h : ¬ k ∈ xs) : updI (mtk xs) k (.bool true) = mtk (xs ++ [k]) := by
  unfold updI
  rw [(findI_mtk k xs 0).2 h]
  simp [mtk]
theorem nodup_step {xs : List Int} {k : Nat} {x : Int} (hx : xs[k]? = some x) (h : (xs.take k).Nodup) (hn : ¬ x ∈ xs.take k) : (xs.take (k + 1)).Nodup := by
  rw [List.take_add_one, hx]
  refine List.nodup_append.2 ⟨h, by simp, ?_⟩
  intro a ha b hb e
  have hb' := List.mem_singleton.1 hb
  subst hb'; subst e; exact hn ha
theorem nodup_stop {xs : List Int} {k : Nat} {x : Int} (hx : xs[k]? = some x) (hn : x ∈ xs.take k) : ¬ xs.Nodup := by
  intro h
  have h2 : (xs.take (k + 1)).Nodup := h.sublist (List.take_sublist _ _)
  rw [List.take_add_one, hx] at h2
  exact (List.nodup_append.1 h2).2.2 x hn x (by simp) rfl
theorem diff1_c (tb bl : Nat) (x n : Int) (w0 w : World) (F : List Atom) (hn : -1000000 ≤ n ∧ n ≤ 1000000) (hs : Sat w0 w (blk tb 131 [.func (.func 92) #[] #[.pointer (some ⟨bl, 0, none⟩)]] :: blk bl 3 [.int .i64 n] :: F)) : Calls Try.prog 91 [.int .i64 x, .pointer (some ⟨tb, 0, none⟩)].toArray w fun e w' => e = .returned (.bool (decide (¬ wi x 0 (n - 1)))) ∧ Sat w0 w' (blk tb 131 [.func (.func 92) #[] #[.pointer (some ⟨bl, 0, none⟩)]] :: blk bl 3 [.int .i64 n] :: F) := by
  refine fstart Try.func91 rfl rfl hs ?_
  refine Cd.seq ?_
  refine Cd.region ?_
  refine Ops.q (q_asg rfl) ?_
  refine Ops.to rfl ?_
  refine Cd.seq ?_
  refine Cd.region ?_
  refine Ops.q (q_ldB isA_131 rfl .here rfl) ?_
  refine Ops.q (q_mv rfl) ?_
  by_cases h1 : wi x 0 (n - 1)
  · refine Ops.cv (α := Unit) (k := 92) (first := []) (caps := [.pointer (some ⟨bl, 0, none⟩)]) (vs := [.int .i64 x]) (v := fun _ => .bool true) (A' := fun _ => blk bl 3 [.int .i64 n] :: blk tb 131 [.func (.func 92) #[] #[.pointer (some ⟨bl, 0, none⟩)]] :: F) en_92 rfl rfl (fun w hs => bT (below1_c bl x n _ w _ (by omega) (((hs.pull .here).pull (.there .here)))) h1) ?_
    intro _
    refine Ops.q (q_not rfl) ?_
    refine Ops.q (q_asg rfl) ?_
    refine Ops.to rfl ?_
    refine Cd.rt (fn := Try.f91) [.bool false] (by with_reducible repeat (first | exact rq_here | apply rq_then | apply rq_block)) rfl ⟨rfl, trivial⟩ ?_
    intro w' hs
    exact ⟨ebool (by simp [h1]), ((hs.pull .here).pull (.there .here))⟩
  · refine Ops.cv (α := Unit) (k := 92) (first := []) (caps := [.pointer (some ⟨bl, 0, none⟩)]) (vs := [.int .i64 x]) (v := fun _ => .bool false) (A' := fun _ => blk bl 3 [.int .i64 n] :: blk tb 131 [.func (.func 92) #[] #[.pointer (some ⟨bl, 0, none⟩)]] :: F) en_92 rfl rfl (fun w hs => bF (below1_c bl x n _ w _ (by omega) (((hs.pull .here).pull (.there .here)))) h1) ?_
    intro _
    refine Ops.q (q_not rfl) ?_
    refine Ops.q (q_asg rfl) ?_
    refine Ops.to rfl ?_
    refine Cd.rt (fn := Try.f91) [.bool true] (by with_reducible repeat (first | exact rq_here | apply rq_then | apply rq_block)) rfl ⟨rfl, trivial⟩ ?_
    intro w' hs
    exact ⟨ebool (by simp [h1]), ((hs.pull .here).pull (.there .here))⟩
theorem indexI_c (tb bl : Nat) (xa : Option Addr) (xc : Nat) (xs : List Int) (n : Int) (w0 w : World) (F : List Atom) (hX : RoL w0 xa eInt xs) (hl : xs.length ≤ 1000000) (hn : -1000000 ≤ n ∧ n ≤ 1000000) (hs : Sat w0 w (blk tb 131 [.func (.func 92) #[] #[.pointer (some ⟨bl, 0, none⟩)]] :: blk bl 3 [.int .i64 n] :: F)) : Calls Try.prog 111 [.slice xa xs.length xc, .func (.func 91) #[] #[.pointer (some ⟨tb, 0, none⟩)]].toArray w fun e w' => ∃ i : Int, e = .returned (.int .i64 i) ∧ (0 ≤ i ↔ ∃ y ∈ xs, ¬ wi y 0 (n - 1)) ∧ Sat w0 w' (blk tb 131 [.func (.func 92) #[] #[.pointer (some ⟨bl, 0, none⟩)]] :: blk bl 3 [.int .i64 n] :: F) := by
  refine fstart Try.func111 rfl rfl hs ?_
  refine Cd.seq ?_
  refine Cd.region ?_
  refine Ops.q (q_asg rfl) ?_
  refine Ops.to rfl ?_
  refine Cd.seq ?_
  refine Cd.seq ?_
  refine Cd.region ?_
  refine Ops.q (q_mv rfl) ?_
  refine Ops.q (q_len esz_26 rfl) ?_
  refine Ops.q (q_mv rfl) ?_
  refine Ops.to rfl ?_
  refine Cd.block ?_
  refine Cd.lp (σ := Nat) (fun k => k ≤ xs.length ∧ ∀ y ∈ xs.take k, wi y 0 (n - 1)) (fun k => [(0, .slice xa xs.length xc), (1, .func (.func 91) #[] #[.pointer (some ⟨tb, 0, none⟩)]), (7, .int .i64 (xs.length : Int)), (8, .int .i64 (k : Int))]) (fun k => blk tb 131 [.func (.func 92) #[] #[.pointer (some ⟨bl, 0, none⟩)]] :: blk bl 3 [.int .i64 n] :: F) (fun k => xs.length - k) 0 ⟨Nat.zero_le _, by simp⟩ ⟨rfl, rfl, rfl, rfl, trivial⟩ (fun _ hs => hs) ?_
  intro k hI
  have hI1 := hI.1
  refine Cd.seq ?_
  refine Cd.region ?_
  by_cases hk : (k : Int) < (xs.length : Int)
  · refine Ops.q (q_cmp rfl rfl (c_lt hk)) ?_
    obtain ⟨x1, hx2⟩ : ∃ x, xs[k]? = some x := ⟨_, List.getElem?_eq_getElem (by omega)⟩
    obtain ⟨ab3, ao4, rfl⟩ := RoL.pos hX eInt_len hx2
    refine Ops.to rfl ?_
    refine Cd.seq ?_
    refine Cd.cond_t rfl ?_
    refine Cd.skipTo rfl ?_
    refine Cd.seq ?_
    refine Cd.block ?_
    refine Cd.seq ?_
    refine Cd.region ?_
    refine Ops.q (q_mv rfl) ?_
    refine Ops.q (q_asg rfl) ?_
    refine Ops.to rfl ?_
    refine Cd.seq ?_
    refine Cd.region ?_
    refine Ops.q (q_mv rfl) ?_
    refine Ops.q (q_mv rfl) ?_
    refine Ops.q (q_mv rfl) ?_
    refine Ops.q (q_ix (k := k) esz_26 rfl rfl (by omega)) ?_
    refine Ops.q (q_ldR isA_3 rfl (hX.at0 eInt_len hx2 rfl)) ?_
    by_cases hc5 : ¬ wi x1 0 (n - 1)
    · refine Ops.cv (α := Unit) (k := 91) (first := []) (caps := [.pointer (some ⟨tb, 0, none⟩)]) (vs := [.int .i64 x1]) (v := fun _ => .bool true) (A' := fun _ => blk tb 131 [.func (.func 92) #[] #[.pointer (some ⟨bl, 0, none⟩)]] :: blk bl 3 [.int .i64 n] :: F) en_91 rfl rfl (fun w hs => bT (diff1_c tb bl x1 n _ w _ hn hs) hc5) ?_
      intro _
      refine Ops.to rfl ?_
      refine Cd.cond_t rfl ?_
      refine Cd.seq ?_
      refine Cd.region ?_
      refine Ops.q (q_mv rfl) ?_
      refine Ops.q (q_asg rfl) ?_
      refine Ops.to rfl ?_
      refine Cd.rt (fn := Try.f111) [.int .i64 (k : Int)] (by with_reducible repeat (first | exact rq_here | apply rq_then | apply rq_block)) rfl ⟨rfl, trivial⟩ ?_
      intro w' hs'
      exact ⟨(k : Int), rfl, ⟨fun _ => ⟨x1, List.mem_iff_getElem?.2 ⟨k, hx2⟩, hc5⟩, fun _ => by omega⟩, hs'⟩
    · refine Ops.cv (α := Unit) (k := 91) (first := []) (caps := [.pointer (some ⟨tb, 0, none⟩)]) (vs := [.int .i64 x1]) (v := fun _ => .bool false) (A' := fun _ => blk tb 131 [.func (.func 92) #[] #[.pointer (some ⟨bl, 0, none⟩)]] :: blk bl 3 [.int .i64 n] :: F) en_91 rfl rfl (fun w hs => bF (diff1_c tb bl x1 n _ w _ hn hs) hc5) ?_
      intro _
      refine Ops.to rfl ?_
      refine Cd.cond_f rfl ?_
      refine Cd.skipTo rfl ?_
      refine Cd.region ?_
      refine Ops.q (q_ar rfl rfl (a_inc (by omega))) ?_
      refine Ops.q (q_mv rfl) ?_
      refine Ops.rnd (k + 1) rfl (⟨by omega, by intro y hy; rw [List.take_add_one, hx2] at hy; rcases List.mem_append.1 hy with hy | hy; exact hI.2 y hy; obtain rfl := List.mem_singleton.1 hy; exact Decidable.of_not_not hc5⟩) (by omega) ⟨rfl, rfl, rfl, rfl, trivial⟩ (fun _ hs => hs) 
  · refine Ops.q (q_cmp rfl rfl (c_nlt (by omega))) ?_
    refine Ops.to rfl ?_
    refine Cd.seq ?_
    refine Cd.cond_f rfl ?_
    refine Cd.exitTo rfl ?_
    refine Cd.seq ?_
    refine Cd.region ?_
    refine Ops.q (q_asg rfl) ?_
    refine Ops.to rfl ?_
    refine Cd.rt (fn := Try.f111) [.int .i64 (-1)] (by with_reducible repeat (first | exact rq_here | apply rq_then | apply rq_block)) rfl ⟨rfl, trivial⟩ ?_
    intro w' hs'
    exact ⟨-1, rfl, ⟨fun h => by omega, fun ⟨y, hy, hne⟩ => by rw [List.take_of_length_le (by omega)] at hI; exact absurd (hI.2 y hy) hne⟩, hs'⟩
theorem containsI_c (tb bl : Nat) (xa : Option Addr) (xc : Nat) (xs : List Int) (n : Int) (w0 w : World) (F : List Atom) (hX : RoL w0 xa eInt xs) (hl : xs.length ≤ 1000000) (hn : -1000000 ≤ n ∧ n ≤ 1000000) (hs : Sat w0 w (blk tb 131 [.func (.func 92) #[] #[.pointer (some ⟨bl, 0, none⟩)]] :: blk bl 3 [.int .i64 n] :: F)) : Calls Try.prog 90 [.slice xa xs.length xc, .func (.func 91) #[] #[.pointer (some ⟨tb, 0, none⟩)]].toArray w fun e w' => e = .returned (.bool (decide (∃ y ∈ xs, ¬ wi y 0 (n - 1)))) ∧ Sat w0 w' (blk tb 131 [.func (.func 92) #[] #[.pointer (some ⟨bl, 0, none⟩)]] :: blk bl 3 [.int .i64 n] :: F) := by
  refine fstart Try.func90 rfl rfl hs ?_
  refine Cd.seq ?_
  refine Cd.region ?_
  refine Ops.q (q_asg rfl) ?_
  refine Ops.to rfl ?_
  refine Cd.seq ?_
  refine Cd.region ?_
  refine Ops.q (q_mv rfl) ?_
  refine Ops.q (q_mv rfl) ?_
  refine Ops.cm (α := {i : Int // 0 ≤ i ↔ ∃ y ∈ xs, ¬ wi y 0 (n - 1)}) (v := fun i => .int .i64 i.1) (A' := fun _ => blk tb 131 [.func (.func 92) #[] #[.pointer (some ⟨bl, 0, none⟩)]] :: blk bl 3 [.int .i64 n] :: F) en_111 rfl (fun w hs => (indexI_c tb bl _ _ xs n _ w _ hX hl hn hs).mono fun e w' h => by obtain ⟨i, h1, h2, h3⟩ := h; exact ⟨⟨i, h2⟩, h1, h3⟩) ?_
  intro i
  by_cases h1 : 0 ≤ i.1
  · refine Ops.q (q_cmp rfl rfl (c_ge h1)) ?_
    refine Ops.q (q_asg rfl) ?_
    refine Ops.to rfl ?_
    refine Cd.rt (fn := Try.f90) [.bool true] (by with_reducible repeat (first | exact rq_here | apply rq_then | apply rq_block)) rfl ⟨rfl, trivial⟩ ?_
    intro w' hs'
    exact ⟨ebool (by rw [← i.2]; simp; try omega), hs'⟩
  · refine Ops.q (q_cmp rfl rfl (c_nge (by omega))) ?_
    refine Ops.q (q_asg rfl) ?_
    refine Ops.to rfl ?_
    refine Cd.rt (fn := Try.f90) [.bool false] (by with_reducible repeat (first | exact rq_here | apply rq_then | apply rq_block)) rfl ⟨rfl, trivial⟩ ?_
    intro w' hs'
    exact ⟨ebool (by rw [← i.2]; simp; try omega), hs'⟩
theorem different_c (bl : Nat) (xa : Option Addr) (xc : Nat) (xs : List Int) (n : Int) (w0 w : World) (F : List Atom) (hX : RoL w0 xa eInt xs) (hl : xs.length ≤ 1000000) (hn : -1000000 ≤ n ∧ n ≤ 1000000) (hs : Sat w0 w (blk bl 3 [.int .i64 n] :: F)) : Calls Try.prog 64 [.slice xa xs.length xc, .func (.func 92) #[] #[.pointer (some ⟨bl, 0, none⟩)]].toArray w fun e w' => e = .returned (.int .i64 (setE n xs)) ∧ Sat w0 w' (blk bl 3 [.int .i64 n] :: F) := by
  refine fstart Try.func64 rfl rfl hs ?_
  refine Cd.seq ?_
  refine Cd.region ?_
  refine Ops.box [.func (.func 92) #[] #[.pointer (some ⟨bl, 0, none⟩)]] rfl rfl ?_
  intro b1
  refine Ops.q (q_asg rfl) ?_
  refine Ops.to rfl ?_
  refine Cd.seq ?_
  refine Cd.seq ?_
  refine Cd.region ?_
  refine Ops.q (q_mv rfl) ?_
  refine Ops.q (q_mkf rfl rfl) ?_
  by_cases hc2 : ∃ y ∈ xs, ¬ wi y 0 (n - 1)
  · refine Ops.cm (α := Unit) (v := fun _ => .bool true) (A' := fun _ => blk b1 131 [.func (.func 92) #[] #[.pointer (some ⟨bl, 0, none⟩)]] :: blk bl 3 [.int .i64 n] :: F) en_90 rfl (fun w hs => bT (containsI_c b1 bl _ _ xs n _ w _ hX hl hn (((hs.pull (.there .here)).pull (.there .here)))) hc2) ?_
    intro _
    refine Ops.to rfl ?_
    refine Cd.cond_t rfl ?_
    refine Cd.seq ?_
    refine Cd.region ?_
    refine Ops.q (q_asg rfl) ?_
    refine Ops.to rfl ?_
    refine Cd.rt (fn := Try.f64) [.int .i64 4] (by with_reducible repeat (first | exact rq_here | apply rq_then | apply rq_block)) rfl ⟨rfl, trivial⟩ ?_
    intro w' hs'
    rw [show setE n xs = 4 by unfold setE; rw [if_neg (fun h => by obtain ⟨y, hy, hne⟩ := hc2; exact hne (h y hy))]]
    exact ⟨rfl, ((hs'.pull (.there .here)).pull (.there .here)).drop⟩
  · refine Ops.cm (α := Unit) (v := fun _ => .bool false) (A' := fun _ => blk b1 131 [.func (.func 92) #[] #[.pointer (some ⟨bl, 0, none⟩)]] :: blk bl 3 [.int .i64 n] :: F) en_90 rfl (fun w hs => bF (containsI_c b1 bl _ _ xs n _ w _ hX hl hn (((hs.pull (.there .here)).pull (.there .here)))) hc2) ?_
    intro _
    refine Ops.to rfl ?_
    refine Cd.cond_f rfl ?_
    refine Cd.skipTo rfl ?_
    refine Cd.seq ?_
    refine Cd.region ?_
    refine Ops.mkm ?_
    intro b3
    refine Ops.q (q_asg rfl) ?_
    refine Ops.to rfl ?_
    refine Cd.seq ?_
    refine Cd.seq ?_
    refine Cd.region ?_
    refine Ops.q (q_mv rfl) ?_
    refine Ops.q (q_len esz_26 rfl) ?_
    refine Ops.q (q_mv rfl) ?_
    refine Ops.to rfl ?_
    refine Cd.block ?_
    refine Cd.lp (σ := Nat) (fun k => k ≤ xs.length ∧ (xs.take k).Nodup) (fun k => [(5, .map (some b3)), (12, .slice xa xs.length xc), (13, .int .i64 (xs.length : Int)), (14, .int .i64 (k : Int))]) (fun k => imap b3 (mtk (xs.take k)) :: blk bl 3 [.int .i64 n] :: F) (fun k => xs.length - k) 0 ⟨Nat.zero_le _, by simp⟩ ⟨rfl, rfl, rfl, rfl, trivial⟩ (fun _ hs => (((hs.pull (.there (.there .here))).pull (.there .here)).pull (.there (.there .here))).drop) ?_
    intro k hI
    have hI1 := hI.1
    refine Cd.seq ?_
    refine Cd.region ?_
    by_cases hk : (k : Int) < (xs.length : Int)
    · refine Ops.q (q_cmp rfl rfl (c_lt hk)) ?_
      obtain ⟨x4, hx5⟩ : ∃ x, xs[k]? = some x := ⟨_, List.getElem?_eq_getElem (by omega)⟩
      obtain ⟨ab6, ao7, rfl⟩ := RoL.pos hX eInt_len hx5
      refine Ops.to rfl ?_
      refine Cd.seq ?_
      refine Cd.cond_t rfl ?_
      refine Cd.skipTo rfl ?_
      refine Cd.seq ?_
      refine Cd.block ?_
      refine Cd.seq ?_
      refine Cd.region ?_
      refine Ops.q (q_ix (k := k) esz_26 rfl rfl (by omega)) ?_
      refine Ops.q (q_ldR isA_3 rfl (hX.at0 eInt_len hx5 rfl)) ?_
      refine Ops.q (q_asg rfl) ?_
      refine Ops.to rfl ?_
      refine Cd.seq ?_
      refine Cd.seq ?_
      refine Cd.region ?_
      refine Ops.q (q_mv rfl) ?_
      refine Ops.q (q_mv rfl) ?_
      by_cases hd8 : x4 ∈ xs.take k
      · refine Ops.q (q_look mpT_166 iK_3 rfl rfl .here (.inl (looki_in hd8))) ?_
        refine Ops.to rfl ?_
        refine Cd.cond_t rfl ?_
        refine Cd.seq ?_
        refine Cd.region ?_
        refine Ops.q (q_asg rfl) ?_
        refine Ops.to rfl ?_
        refine Cd.rt (fn := Try.f64) [.int .i64 5] (by with_reducible repeat (first | exact rq_here | apply rq_then | apply rq_block)) rfl ⟨rfl, trivial⟩ ?_
        intro w' hs'
        rw [show setE n xs = 5 by unfold setE; rw [if_pos (fun y hy => Decidable.of_not_not (fun hne => hc2 ⟨y, hy, hne⟩)), if_neg (nodup_stop hx5 hd8)]]
        exact ⟨rfl, ((hs'.pull (.there .here)).pull (.there .here)).drop⟩
      · refine Ops.q (q_look mpT_166 iK_3 rfl rfl .here (.inr ⟨looki_out hd8, zero_4⟩)) ?_
        refine Ops.to rfl ?_
        refine Cd.cond_f rfl ?_
        refine Cd.skipTo rfl ?_
        refine Cd.region ?_
        refine Ops.q (q_mv rfl) ?_
        refine Ops.q (q_mv rfl) ?_
        refine Ops.mpu mpT_166 iK_3 rfl rfl rfl .here ?_
        refine Ops.to rfl ?_
        refine Cd.region ?_
        refine Ops.q (q_ar rfl rfl (a_inc (by omega))) ?_
        refine Ops.q (q_mv rfl) ?_
        refine Ops.rnd (k + 1) rfl (⟨by omega, nodup_step hx5 hI.2 hd8⟩) (by omega) ⟨rfl, rfl, rfl, rfl, trivial⟩ (fun _ hs => by have h1 := ((hs.pull (.there .here)).pull (.there .here)); rw [updI_out hd8] at h1; rw [List.take_add_one, hx5]; exact h1) 
    · refine Ops.q (q_cmp rfl rfl (c_nlt (by omega))) ?_
      refine Ops.to rfl ?_
      refine Cd.seq ?_
      refine Cd.cond_f rfl ?_
      refine Cd.exitTo rfl ?_
      refine Cd.seq ?_
      refine Cd.region ?_
      refine Ops.q (q_asg rfl) ?_
      refine Ops.to rfl ?_
      refine Cd.rt (fn := Try.f64) [.int .i64 0] (by with_reducible repeat (first | exact rq_here | apply rq_then | apply rq_block)) rfl ⟨rfl, trivial⟩ ?_
      intro w' hs'
      rw [show setE n xs = 0 by unfold setE; rw [if_pos (fun y hy => Decidable.of_not_not (fun hne => hc2 ⟨y, hy, hne⟩)), if_pos (by have := hI.2; rwa [List.take_of_length_le (by omega)] at this)]]
      exact ⟨rfl, ((hs'.pull (.there .here)).pull (.there .here)).drop⟩
end Go.Proofs.Ytilcdghliigngaa
namespace Go.Proofs.Ytilcdghliigngaa
open Go.RowKit Go.Proofs.YtilcdghliigngaaGl Go.Proofs.YtilcdghliigngaaPm
set_option linter.unusedVariables false
set_option linter.unusedSimpArgs false
abbrev CL := NL × Int
abbrev clP (l : CL) : List Int × Int := (l.1.2, l.2)
def eCl (l : CL) : List Value := [.slice l.1.1.1 l.1.2.length l.1.1.2, .int .i64 l.2]
theorem eCl_len (l : CL) : (eCl l).length = 2 := rfl
def RoCL (w : World) (a : Option Addr) (ls : List CL) : Prop := RoL w a eCl ls ∧ ∀ l ∈ ls, RoL w l.1.1.1 eInt l.1.2
theorem RoCL.later {w w' : World} {a : Option Addr} {ls : List CL} (h : RoCL w a ls) (hb : Below w.heap.size w w') : RoCL w' a ls := ⟨RoL.later h.1 hb, fun l hl => RoL.later (h.2 l hl) hb⟩
def claE (n : Int) (c : List Int × Int) : Int := if 16 < c.1.length then 9 else if setE n c.1 ≠ 0 then setE n c.1 else if wi c.2 (-1) (n - 1) then 0 else 4
def clS (m c : Nat) (x : List Int × Int) : List Syn :=
  (x.1.map (fun t : Int => (⟨t, ((m + 1 + c : Nat) : Int), 1, 1⟩ : Syn)) ++ (if x.1.length = 0 then [⟨-1 - 0, ((m + 1 + c : Nat) : Int), 1, 1⟩] else [])) ++ [⟨((m + 1 + c : Nat) : Int), if x.2 < 0 then (m : Int) else x.2, 1, 1⟩]
def clTo (m : Nat) (cs : List (List Int × Int)) (k : Nat) : List Syn := (List.range k).flatMap fun c => clS m c (cs.getD c ([], 0))
def hornP (n : Int) (cs : List (List Int × Int)) : Except Int NetP :=
  if wi n 1 256 then
    if 512 < cs.length then .error 9
    else if firstE (claE n) cs ≠ 0 then .error (firstE (claE n) cs)
    else .ok ⟨List.replicate (n.toNat + 1) (onceP 1) ++ cs.map (fun c => onceP (max 1 (c.1.length : Int))), 1, selvesFrom 0 (n.toNat + 1 + cs.length) ++ clTo n.toNat cs cs.length⟩
  else .error 3
theorem clS_len (m c : Nat) (x : List Int × Int) : (clS m c x).length ≤ x.1.length + 2 := by
  unfold clS
  simp only [List.length_append, List.length_map, List.length_cons, List.length_nil]
  split <;> simp
theorem clTo_len {m : Nat} {cs : List (List Int × Int)} (h : ∀ x ∈ cs, x.1.length ≤ 16) : ∀ k, k ≤ cs.length → (clTo m cs k).length ≤ k * 18
  | 0, _ => by simp [clTo]
  | k + 1, hk => by
    have ih := clTo_len (m := m) h k (by omega)
    unfold clTo at ih ⊢
    rw [rf_app, List.length_append]
    obtain ⟨x, hx⟩ : ∃ x, cs[k]? = some x := ⟨_, List.getElem?_eq_getElem (by omega)⟩
    rw [getD_at hx]
    have h1 := clS_len m k x
    have h2 := h x (List.mem_iff_getElem?.2 ⟨k, hx⟩)
    omega
theorem cl_stepE {m q : Nat} {cs : List (List Int × Int)} {xr : List Int} {xt to : Int} (h : cs[q]? = some (xr, xt)) (h0 : xr.length = 0) (ht : (if xt < 0 then (m : Int) else xt) = to) (X : List Syn) :
    X ++ clTo m cs (q + 1) = (((X ++ clTo m cs q) ++ xr.map (fun t : Int => (⟨t, ((m + 1 + q : Nat) : Int), 1, 1⟩ : Syn))) ++ [⟨-1 - 0, ((m + 1 + q : Nat) : Int), 1, 1⟩]) ++ [⟨((m + 1 + q : Nat) : Int), to, 1, 1⟩] := by
  unfold clTo
  rw [rf_app, getD_at h, clS, if_pos h0, ht]
  simp
theorem cl_stepN {m q : Nat} {cs : List (List Int × Int)} {xr : List Int} {xt to : Int} (h : cs[q]? = some (xr, xt)) (h0 : ¬ xr.length = 0) (ht : (if xt < 0 then (m : Int) else xt) = to) (X : List Syn) :
    X ++ clTo m cs (q + 1) = ((X ++ clTo m cs q) ++ xr.map (fun t : Int => (⟨t, ((m + 1 + q : Nat) : Int), 1, 1⟩ : Syn))) ++ [⟨((m + 1 + q : Nat) : Int), to, 1, 1⟩] := by
  unfold clTo
  rw [rf_app, getD_at h, clS, if_neg h0, ht]
  simp
theorem claE_9 {n : Int} {c : List Int × Int} (h : 16 < c.1.length) : claE n c = 9 := by unfold claE; rw [if_pos h]
theorem claE_s {n : Int} {c : List Int × Int} (h : ¬ 16 < c.1.length) (h2 : ¬ setE n c.1 = 0) : claE n c = setE n c.1 := by unfold claE; rw [if_neg h, if_pos h2]
theorem claE_4 {n : Int} {c : List Int × Int} (h : ¬ 16 < c.1.length) (h2 : setE n c.1 = 0) (h3 : ¬ wi c.2 (-1) (n - 1)) : claE n c = 4 := by unfold claE; rw [if_neg h, if_neg (by simpa using h2), if_neg h3]
theorem claE_0 {n : Int} {c : List Int × Int} (h : ¬ 16 < c.1.length) (h2 : setE n c.1 = 0) (h3 : wi c.2 (-1) (n - 1)) : claE n c = 0 := by unfold claE; rw [if_neg h, if_neg (by simpa using h2), if_pos h3]
theorem claE_16 {n : Int} {c : List Int × Int} (h : claE n c = 0) : c.1.length ≤ 16 := by
  unfold claE at h
  split at h
  · cases h
  · omega
theorem horn_c (n : Int) (la : Option Addr) (lc : Nat) (ls : List CL) (w : World) (hL : RoCL w la ls) : Calls Try.prog 26 [.int .i64 n, .slice la ls.length lc].toArray w (RetR (hornP n (ls.map clP)) w) := by
  refine fstart Try.func26 rfl rfl (Sat.nil w) ?_
  refine Cd.seq ?_
  refine Cd.region ?_
  refine Ops.alc [.slice none 0 0, .int .i64 0, .slice none 0 0] zc_32 ?_
  intro b1
  refine Ops.q (q_asg rfl) ?_
  refine Ops.to rfl ?_
  refine Cd.seq ?_
  refine Cd.block ?_
  refine Cd.seq ?_
  refine Cd.region ?_
  refine Ops.q (q_mv rfl) ?_
  by_cases h2 : wi n 1 256
  · refine Ops.cp en_57 rfl (fun w hs => dT (in_c _ _ _ w) h2) ?_
    refine Ops.q (q_not rfl) ?_
    refine Ops.q (q_asg rfl) ?_
    refine Ops.to rfl ?_
    refine Cd.cond_f rfl ?_
    refine Cd.seq ?_
    refine Cd.region ?_
    obtain ⟨m, rfl⟩ : ∃ j : Nat, n = (j : Int) := ⟨n.toNat, by unfold wi at h2; omega⟩
    have hm : 1 ≤ m ∧ m ≤ 256 := by unfold wi at h2; omega
    refine Ops.q (q_mv rfl) ?_
    refine Ops.q (q_len esz_52 rfl) ?_
    by_cases h3 : 512 < (ls.length : Int)
    · refine Ops.q (q_cmp rfl rfl (c_gt h3)) ?_
      refine Ops.q (q_asg rfl) ?_
      refine Ops.to rfl ?_
      refine Cd.cond_t rfl ?_
      refine Cd.seq ?_
      refine Cd.region ?_
      refine Ops.q (q_bld [.slice none 0 0, .int .i64 0, .slice none 0 0] pls_32 zc_32 rfl rfl) ?_
      refine Ops.stB [.slice none 0 0, .int .i64 0, .slice none 0 0] [.slice none 0 0, .int .i64 0, .slice none 0 0] sz_32 rfl rfl rfl (one rfl) .here rfl rfl ?_
      refine Ops.q (q_asg rfl) ?_
      refine Ops.to rfl ?_
      refine Cd.rt (fn := Try.f26) [.agg [.slice none 0 0, .int .i64 0, .slice none 0 0].toArray, .int .i64 9] (by with_reducible repeat (first | exact rq_here | apply rq_then | apply rq_block)) rfl ⟨⟨_, _, rfl, fun _ hs => run_loadN isA_32 sz_32 (fun o u hu => Sat.atB .here (by rw [Nat.zero_add]; exact hu) hs)⟩, rfl, trivial⟩ ?_
      intro w' hs'
      rw [show hornP (m : Int) (ls.map clP) = .error 9 by unfold hornP; rw [if_pos h2, if_pos (by rw [List.length_map]; omega)]]
      exact ⟨rfl, hs'.none⟩
    · refine Ops.q (q_cmp rfl rfl (c_ngt (by omega))) ?_
      refine Ops.q (q_asg rfl) ?_
      refine Ops.to rfl ?_
      refine Cd.cond_f rfl ?_
      refine Cd.skipTo rfl ?_
      refine Cd.seq ?_
      refine Cd.region ?_
      refine Ops.q (q_bld [.slice none 0 0, .int .i64 1, .slice none 0 0] pls_32 zc_32 rfl rfl) ?_
      refine Ops.q (q_bld [.slice none 0 0, .int .i64 1, .slice none 0 0] pls_114 zc_114 rfl rfl) ?_
      refine Ops.alc [.slice none 0 0, .int .i64 0, .slice none 0 0] zc_114 ?_
      intro b4
      refine Ops.stB [.slice none 0 0, .int .i64 1, .slice none 0 0] [.slice none 0 0, .int .i64 1, .slice none 0 0] sz_114 rfl rfl rfl (one rfl) .here rfl rfl ?_
      refine Ops.to rfl ?_
      refine Cd.seq ?_
      refine Cd.nilRow 126 4 ?_
      refine Cd.nilRow 116 8 ?_
      change Cd _ _ _ _ _ _ _ _ ([row none 0 116 8 (([] : List Prm).length) (([] : List Prm).flatMap ePrm), row none 0 126 4 (([] : List Syn).length) (([] : List Syn).flatMap eSyn), blk b4 114 [.slice none (([] : List Prm).length) 0, .int .i64 1, .slice none (([] : List Syn).length) 0], blk b1 32 [.slice none 0 0, .int .i64 0, .slice none 0 0]])
      refine Cd.region ?_
      refine Ops.cp en_60 rfl (fun w hs => once_c w) ?_
      refine Ops.cl (α := Nat × Nat) (v := fun x => .func (.func 86) #[] #[.pointer (some ⟨x.1, 0, none⟩), .pointer (some ⟨x.2, 0, none⟩)]) (B := fun x => [blk x.1 116 (ePrm (onceP 0)), blk x.2 161 [.pointer (some ⟨b4, 0, none⟩)]]) en_49 rfl (fun w hs => grow_c b4 (onceP 0) w) ?_
      rintro ⟨pb5, bb6⟩
      refine Ops.q (q_asg rfl) ?_
      refine Ops.to rfl ?_
      refine Cd.seq ?_
      refine Cd.region ?_
      refine Ops.q (q_mv rfl) ?_
      refine Ops.lit [.int .i64 1] el_26 zsb_3 rfl rfl ⟨by decide, by decide⟩ rfl ?_
      intro b7
      refine Ops.q (q_mv rfl) ?_
      refine Ops.q (q_ar (v := ((m + 1 : Nat) : Int)) rfl rfl (a_inc (by omega))) ?_
      refine Ops.cm (α := Option Addr × Nat) (v := fun p => .slice p.1 (List.replicate (m + 1) (1 : Int)).length p.2) (A' := fun p => row p.1 p.2 3 1 (List.replicate (m + 1) (1 : Int)).length ((List.replicate (m + 1) (1 : Int)).flatMap eInt) :: [row (some ⟨b7, 0, none⟩) 1 3 1 1 [.int .i64 1], blk pb5 116 (ePrm (onceP 0)), blk bb6 161 [.pointer (some ⟨b4, 0, none⟩)], row none 0 116 8 (([] : List Prm).length) (([] : List Prm).flatMap ePrm), row none 0 126 4 (([] : List Syn).length) (([] : List Syn).flatMap eSyn), blk b4 114 [.slice none (([] : List Prm).length) 0, .int .i64 1, .slice none (([] : List Syn).length) 0], blk b1 32 [.slice none 0 0, .int .i64 0, .slice none 0 0]]) en_52 rfl (fun w hs => repeat_l b7 1 (m + 1) _ w _ (by omega) ((((((((hs.pull (.there (.there (.there (.there (.there (.there .here))))))).pull (.there (.there (.there (.there (.there (.there .here))))))).pull (.there (.there (.there (.there (.there (.there .here))))))).pull (.there (.there (.there (.there (.there (.there .here))))))).pull (.there (.there (.there (.there (.there (.there .here))))))).pull (.there (.there (.there (.there (.there (.there .here))))))).pull (.there (.there (.there (.there (.there (.there .here))))))))) ?_
      rintro ⟨a8, c9⟩
      refine Ops.cv (α := Option Addr × Nat) (k := 86) (first := []) (caps := [.pointer (some ⟨pb5, 0, none⟩), .pointer (some ⟨bb6, 0, none⟩)]) (vs := [.slice a8 ((List.replicate (m + 1) (1 : Int)).length) c9]) (v := fun _ => .tuple #[]) (A' := fun p => [blk b4 114 [.slice p.1 ((([] : List Prm) ++ (List.replicate (m + 1) (1 : Int)).map (setTh (onceP 0))).length) p.2, .int .i64 1, .slice none (([] : List Syn).length) 0], row p.1 p.2 116 8 ((([] : List Prm) ++ (List.replicate (m + 1) (1 : Int)).map (setTh (onceP 0))).length) ((([] : List Prm) ++ (List.replicate (m + 1) (1 : Int)).map (setTh (onceP 0))).flatMap ePrm), row none 0 126 4 (([] : List Syn).length) (([] : List Syn).flatMap eSyn), blk pb5 116 (ePrm (onceP 0)), blk bb6 161 [.pointer (some ⟨b4, 0, none⟩)], row a8 c9 3 1 ((List.replicate (m + 1) (1 : Int)).length) ((List.replicate (m + 1) (1 : Int)).flatMap eInt), row (some ⟨b7, 0, none⟩) 1 3 1 1 [.int .i64 1], blk b1 32 [.slice none 0 0, .int .i64 0, .slice none 0 0]]) en_86 rfl rfl (fun w hs => grown_c b4 _ _ _ _ ([] : List Prm) _ ([] : List Syn) pb5 bb6 _ _ (List.replicate (m + 1) (1 : Int)) _ _ w _ (by simp only [List.length_append, List.length_map, List.length_take, List.length_cons, List.length_nil, List.length_replicate, selves_len]; omega) (((((((((hs.pull (.there (.there (.there (.there (.there (.there (.there .here)))))))).pull (.there (.there .here))).pull (.there (.there .here))).pull (.there (.there (.there (.there .here))))).pull (.there (.there (.there (.there .here))))).pull (.there (.there (.there (.there (.there (.there .here))))))).pull (.there (.there (.there (.there (.there (.there .here))))))).pull (.there (.there (.there (.there (.there (.there (.there .here)))))))))) ?_
      rintro ⟨a10, c11⟩
      refine Ops.to rfl ?_
      refine Cd.seq ?_
      refine Cd.seq ?_
      refine Cd.region ?_
      refine Ops.q (q_mv rfl) ?_
      refine Ops.q (q_len esz_52 rfl) ?_
      refine Ops.q (q_mv rfl) ?_
      refine Ops.to rfl ?_
      refine Cd.block ?_
      refine Cd.lp (σ := Nat × Option Addr × Nat) (fun s => s.1 ≤ ls.length ∧ firstE (claE (m : Int)) ((ls.map clP).drop s.1) = firstE (claE (m : Int)) (ls.map clP)) (fun s => [(0, .int .i64 (m : Int)), (1, .slice la ls.length lc), (4, .pointer (some ⟨b1, 0, none⟩)), (6, .pointer (some ⟨b4, 0, none⟩)), (7, .func (.func 86) #[] #[.pointer (some ⟨pb5, 0, none⟩), .pointer (some ⟨bb6, 0, none⟩)]), (36, .slice la ls.length lc), (37, .int .i64 (ls.length : Int)), (38, .int .i64 (s.1 : Int))]) (fun s => [blk b4 114 [.slice s.2.1 (((([] : List Prm) ++ (List.replicate (m + 1) (1 : Int)).map (setTh (onceP 0))) ++ (ls.take s.1).map (fun l : CL => setTh (onceP 0) (max 1 (l.1.2.length : Int)))).length) s.2.2, .int .i64 1, .slice none (([] : List Syn).length) 0], row s.2.1 s.2.2 116 8 (((([] : List Prm) ++ (List.replicate (m + 1) (1 : Int)).map (setTh (onceP 0))) ++ (ls.take s.1).map (fun l : CL => setTh (onceP 0) (max 1 (l.1.2.length : Int)))).length) (((([] : List Prm) ++ (List.replicate (m + 1) (1 : Int)).map (setTh (onceP 0))) ++ (ls.take s.1).map (fun l : CL => setTh (onceP 0) (max 1 (l.1.2.length : Int)))).flatMap ePrm), row none 0 126 4 (([] : List Syn).length) (([] : List Syn).flatMap eSyn), blk pb5 116 (ePrm (onceP 0)), blk bb6 161 [.pointer (some ⟨b4, 0, none⟩)], blk b1 32 [.slice none 0 0, .int .i64 0, .slice none 0 0]]) (fun s => ls.length - s.1) (0, a10, c11) ⟨Nat.zero_le _, rfl⟩ ⟨rfl, rfl, rfl, rfl, rfl, rfl, rfl, rfl, trivial⟩ (fun _ hs => by have h1 := ((((((((hs.pull (.there (.there (.there (.there (.there (.there (.there .here)))))))).pull (.there (.there (.there (.there (.there .here)))))).pull (.there (.there (.there (.there (.there .here)))))).pull (.there (.there (.there (.there (.there .here)))))).pull (.there (.there (.there (.there (.there .here)))))).pull (.there (.there (.there (.there (.there .here)))))).pull (.there (.there (.there (.there (.there (.there .here))))))).drop.pull (.there (.there (.there (.there (.there (.there .here))))))).drop; dsimp only; rw [show ((([] : List Prm) ++ (List.replicate (m + 1) (1 : Int)).map (setTh (onceP 0))) ++ (ls.take 0).map (fun l : CL => setTh (onceP 0) (max 1 (l.1.2.length : Int)))) = (([] : List Prm) ++ (List.replicate (m + 1) (1 : Int)).map (setTh (onceP 0))) from List.append_nil _]; exact h1) ?_
      rintro ⟨k, pa, pc⟩ hI
      dsimp only at hI
      change Cd _ _ _ _ _ _ _ [(0, .int .i64 (m : Int)), (1, .slice la ls.length lc), (4, .pointer (some ⟨b1, 0, none⟩)), (6, .pointer (some ⟨b4, 0, none⟩)), (7, .func (.func 86) #[] #[.pointer (some ⟨pb5, 0, none⟩), .pointer (some ⟨bb6, 0, none⟩)]), (36, .slice la ls.length lc), (37, .int .i64 (ls.length : Int)), (38, .int .i64 (k : Int))] ([blk b4 114 [.slice pa (((([] : List Prm) ++ (List.replicate (m + 1) (1 : Int)).map (setTh (onceP 0))) ++ (ls.take k).map (fun l : CL => setTh (onceP 0) (max 1 (l.1.2.length : Int)))).length) pc, .int .i64 1, .slice none (([] : List Syn).length) 0], row pa pc 116 8 (((([] : List Prm) ++ (List.replicate (m + 1) (1 : Int)).map (setTh (onceP 0))) ++ (ls.take k).map (fun l : CL => setTh (onceP 0) (max 1 (l.1.2.length : Int)))).length) (((([] : List Prm) ++ (List.replicate (m + 1) (1 : Int)).map (setTh (onceP 0))) ++ (ls.take k).map (fun l : CL => setTh (onceP 0) (max 1 (l.1.2.length : Int)))).flatMap ePrm), row none 0 126 4 (([] : List Syn).length) (([] : List Syn).flatMap eSyn), blk pb5 116 (ePrm (onceP 0)), blk bb6 161 [.pointer (some ⟨b4, 0, none⟩)], blk b1 32 [.slice none 0 0, .int .i64 0, .slice none 0 0]])
      have hI1 := hI.1
      refine Cd.seq ?_
      refine Cd.region ?_
      by_cases hk : (k : Int) < (ls.length : Int)
      · refine Ops.q (q_cmp rfl rfl (c_lt hk)) ?_
        obtain ⟨⟨⟨⟨xa, xc⟩, xr⟩, xt⟩, hx⟩ : ∃ x, ls[k]? = some x := ⟨_, List.getElem?_eq_getElem (by omega)⟩
        have hxe : RoL w xa eInt xr := hL.2 _ (List.mem_iff_getElem?.2 ⟨k, hx⟩)
        skip
        have hxq : (ls.map clP)[k]? = some (xr, xt) := by rw [List.getElem?_map, hx]; rfl
        obtain ⟨lb, lo, rfl⟩ := RoL.pos hL.1 eCl_len hx
        refine Ops.to rfl ?_
        refine Cd.seq ?_
        refine Cd.cond_t rfl ?_
        refine Cd.skipTo rfl ?_
        refine Cd.seq ?_
        refine Cd.block ?_
        refine Cd.seq ?_
        refine Cd.region ?_
        refine Ops.q (q_ix (k := k) esz_52 rfl rfl (by omega)) ?_
        refine Ops.q (q_ldRN [.slice xa xr.length xc, .int .i64 xt] isA_55 sz_55 rfl (fun j u hu => hL.1.at eCl_len hx hu)) ?_
        refine Ops.alc [.slice none 0 0, .int .i64 0] zc_55 ?_
        intro b12
        refine Ops.stB [.slice xa xr.length xc, .int .i64 xt] [.slice xa xr.length xc, .int .i64 xt] sz_55 rfl rfl rfl (one rfl) .here rfl rfl ?_
        refine Ops.to rfl ?_
        refine Cd.seq ?_
        refine Cd.seq ?_
        refine Cd.region ?_
        refine Ops.q (q_fa fo_55_0 rfl) ?_
        refine Ops.q (q_ldB isA_26 rfl .here rfl) ?_
        refine Ops.q (q_len esz_26 rfl) ?_
        by_cases hx16 : 16 < (xr.length : Int)
        · refine Ops.q (q_cmp rfl rfl (c_gt hx16)) ?_
          refine Ops.to rfl ?_
          refine Cd.cond_t rfl ?_
          refine Cd.seq ?_
          refine Cd.region ?_
          refine Ops.q (q_bld [.slice none 0 0, .int .i64 0, .slice none 0 0] pls_32 zc_32 rfl rfl) ?_
          refine Ops.stB [.slice none 0 0, .int .i64 0, .slice none 0 0] [.slice none 0 0, .int .i64 0, .slice none 0 0] sz_32 rfl rfl rfl (one rfl) (.there (.there (.there (.there (.there (.there .here)))))) rfl rfl ?_
          refine Ops.q (q_asg rfl) ?_
          refine Ops.to rfl ?_
          refine Cd.rt (fn := Try.f26) [.agg [.slice none 0 0, .int .i64 0, .slice none 0 0].toArray, .int .i64 9] (by with_reducible repeat (first | exact rq_here | apply rq_then | apply rq_block)) rfl ⟨⟨_, _, rfl, fun _ hs => run_loadN isA_32 sz_32 (fun o u hu => Sat.atB (.there (.there (.there (.there (.there (.there .here)))))) (by rw [Nat.zero_add]; exact hu) hs)⟩, rfl, trivial⟩ ?_
          intro w' hs'
          have h8 : claE (m : Int) (xr, xt) = 9 := claE_9 (by show 16 < xr.length; omega)
          have h9 : firstE (claE (m : Int)) (ls.map clP) = 9 := by rw [← hI.2, firstE_stop hxq (by rw [h8]; decide), h8]
          rw [show hornP (m : Int) (ls.map clP) = .error (9) by unfold hornP; rw [if_pos h2, if_neg (by rw [List.length_map]; omega), h9, if_pos (by decide)]]
          exact ⟨rfl, hs'.none⟩
        · refine Ops.q (q_cmp rfl rfl (c_ngt (by omega))) ?_
          refine Ops.to rfl ?_
          refine Cd.cond_f rfl ?_
          refine Cd.skipTo rfl ?_
          refine Cd.seq ?_
          refine Cd.seq ?_
          refine Cd.draw rfl (by kernel_rfl) (.cons .here .nil) ?_
          intro F13 St14 hP15 hF16 hR17
          refine Dr.q (i := 0) hP15 rfl (by kernel_rfl) (q_fa fo_55_0 rfl) ?_
          refine Dr.q (i := 1) hP15 rfl (by kernel_rfl) (q_ldB isA_26 rfl .here rfl) ?_
          refine Dr.q (i := 2) hP15 rfl (by kernel_rfl) (q_mv rfl) ?_
          refine Dr.e (i := 3) rfl (by kernel_rfl) ?_
          refine Ops.cl (α := Nat) (v := fun b => .func (.func 92) #[] #[.pointer (some ⟨b, 0, none⟩)]) (B := fun b => [blk b 3 [.int .i64 (m : Int)]]) en_65 rfl (fun w hs => below_c (m : Int) w) ?_
          intro bl18
          refine Dr.back (fun _ hs => hF16 (.there .here) hs) ?_
          refine Dr.e (i := 4) rfl (by kernel_rfl) ?_
          refine Ops.cm (α := Unit) (v := fun _ => .int .i64 (setE (m : Int) xr)) (A' := fun _ => [blk bl18 3 [.int .i64 (m : Int)], F13, blk b4 114 [.slice pa (((([] : List Prm) ++ (List.replicate (m + 1) (1 : Int)).map (setTh (onceP 0))) ++ (ls.take k).map (fun l : CL => setTh (onceP 0) (max 1 (l.1.2.length : Int)))).length) pc, .int .i64 1, .slice none (([] : List Syn).length) 0], row pa pc 116 8 (((([] : List Prm) ++ (List.replicate (m + 1) (1 : Int)).map (setTh (onceP 0))) ++ (ls.take k).map (fun l : CL => setTh (onceP 0) (max 1 (l.1.2.length : Int)))).length) (((([] : List Prm) ++ (List.replicate (m + 1) (1 : Int)).map (setTh (onceP 0))) ++ (ls.take k).map (fun l : CL => setTh (onceP 0) (max 1 (l.1.2.length : Int)))).flatMap ePrm), row none 0 126 4 (([] : List Syn).length) (([] : List Syn).flatMap eSyn), blk pb5 116 (ePrm (onceP 0)), blk bb6 161 [.pointer (some ⟨b4, 0, none⟩)], blk b1 32 [.slice none 0 0, .int .i64 0, .slice none 0 0]]) en_64 rfl (fun w hs => (different_c bl18 _ _ xr _ _ w _ hxe (by omega) (by omega) (((((((((hs.pull (.there (.there (.there (.there (.there (.there (.there .here)))))))).pull (.there (.there (.there (.there (.there (.there (.there .here)))))))).pull (.there (.there (.there (.there (.there (.there (.there .here)))))))).pull (.there (.there (.there (.there (.there (.there (.there .here)))))))).pull (.there (.there (.there (.there (.there (.there (.there .here)))))))).pull (.there (.there (.there (.there (.there (.there (.there .here)))))))).pull (.there (.there (.there (.there (.there (.there (.there .here)))))))).pull (.there (.there (.there (.there (.there (.there (.there .here)))))))))).mono fun e w' h => ⟨(), h.1, h.2⟩) ?_
          intro _
          refine Dr.back (fun _ hs => hF16 (.there .here) hs) ?_
          refine Dr.tail 5 (by kernel_rfl) ?_
          refine Ops.sat ?_ (fun _ hs => hR17 (.there .here) hs)
          refine Ops.q (q_asg rfl) ?_
          refine Ops.to rfl ?_
          refine Cd.seq ?_
          refine Cd.region ?_
          refine Ops.q (q_mv rfl) ?_
          by_cases hset : setE (m : Int) xr = 0
          · refine Ops.q (q_cmp rfl rfl (c_nne hset)) ?_
            refine Ops.to rfl ?_
            refine Cd.cond_f rfl ?_
            refine Cd.skipTo rfl ?_
            refine Cd.seq ?_
            refine Cd.seq ?_
            refine Cd.region ?_
            refine Ops.q (q_fa fo_55_1 rfl) ?_
            refine Ops.q (q_ldB isA_3 rfl .here rfl) ?_
            refine Ops.q (q_mv rfl) ?_
            refine Ops.q (q_ar (v := (m : Int) - 1) rfl rfl (a_sub (by omega))) ?_
            by_cases h19 : wi xt (-1) ((m : Int) - 1)
            · refine Ops.cp en_57 rfl (fun w hs => dT (in_c _ _ _ w) h19) ?_
              refine Ops.q (q_not rfl) ?_
              refine Ops.to rfl ?_
              refine Cd.cond_f rfl ?_
              refine Cd.skipTo rfl ?_
              refine Cd.region ?_
              refine Ops.q (q_mv rfl) ?_
              refine Ops.q (q_fa fo_55_0 rfl) ?_
              refine Ops.q (q_ldB isA_26 rfl .here rfl) ?_
              refine Ops.q (q_len esz_26 rfl) ?_
              refine Ops.q (q_max rfl rfl) ?_
              refine Ops.lit [.int .i64 (max 1 (xr.length : Int))] el_26 zsb_3 rfl rfl ⟨by decide, by decide⟩ rfl ?_
              intro b20
              refine Ops.cv (α := Option Addr × Nat) (k := 86) (first := []) (caps := [.pointer (some ⟨pb5, 0, none⟩), .pointer (some ⟨bb6, 0, none⟩)]) (vs := [.slice (some ⟨b20, 0, none⟩) ([max 1 (xr.length : Int)].length) 1]) (v := fun _ => .tuple #[]) (A' := fun p => [blk b4 114 [.slice p.1 ((((([] : List Prm) ++ (List.replicate (m + 1) (1 : Int)).map (setTh (onceP 0))) ++ (ls.take k).map (fun l : CL => setTh (onceP 0) (max 1 (l.1.2.length : Int)))) ++ [max 1 (xr.length : Int)].map (setTh (onceP 0))).length) p.2, .int .i64 1, .slice none (([] : List Syn).length) 0], row p.1 p.2 116 8 ((((([] : List Prm) ++ (List.replicate (m + 1) (1 : Int)).map (setTh (onceP 0))) ++ (ls.take k).map (fun l : CL => setTh (onceP 0) (max 1 (l.1.2.length : Int)))) ++ [max 1 (xr.length : Int)].map (setTh (onceP 0))).length) ((((([] : List Prm) ++ (List.replicate (m + 1) (1 : Int)).map (setTh (onceP 0))) ++ (ls.take k).map (fun l : CL => setTh (onceP 0) (max 1 (l.1.2.length : Int)))) ++ [max 1 (xr.length : Int)].map (setTh (onceP 0))).flatMap ePrm), row none 0 126 4 (([] : List Syn).length) (([] : List Syn).flatMap eSyn), blk pb5 116 (ePrm (onceP 0)), blk bb6 161 [.pointer (some ⟨b4, 0, none⟩)], row (some ⟨b20, 0, none⟩) 1 3 1 ([max 1 (xr.length : Int)].length) ([max 1 (xr.length : Int)].flatMap eInt), blk b12 55 [.slice xa xr.length xc, .int .i64 xt], blk bl18 3 [.int .i64 (m : Int)], blk b1 32 [.slice none 0 0, .int .i64 0, .slice none 0 0]]) en_86 rfl rfl (fun w hs => grown_c b4 _ _ _ _ ((([] : List Prm) ++ (List.replicate (m + 1) (1 : Int)).map (setTh (onceP 0))) ++ (ls.take k).map (fun l : CL => setTh (onceP 0) (max 1 (l.1.2.length : Int)))) _ ([] : List Syn) pb5 bb6 _ _ [max 1 (xr.length : Int)] _ _ w _ (by simp only [List.length_append, List.length_map, List.length_take, List.length_cons, List.length_nil, List.length_replicate, selves_len]; omega) ((((((((((hs.pull (.there (.there (.there (.there (.there (.there (.there (.there .here))))))))).pull (.there (.there (.there .here)))).pull (.there (.there (.there .here)))).pull (.there (.there (.there .here)))).pull (.there (.there (.there (.there (.there (.there (.there (.there .here))))))))).pull (.there (.there (.there (.there (.there (.there (.there (.there .here))))))))).pull (.there (.there (.there (.there (.there (.there (.there (.there .here))))))))).pull (.there (.there (.there (.there (.there (.there (.there (.there .here))))))))).pull (.there (.there (.there (.there (.there (.there (.there (.there .here))))))))))) ?_
              rintro ⟨a21, c22⟩
              refine Ops.to rfl ?_
              refine Cd.region ?_
              refine Ops.q (q_ar rfl rfl (a_inc (by omega))) ?_
              refine Ops.q (q_mv rfl) ?_
              refine Ops.rnd ((k + 1, a21, c22)) rfl (by dsimp only; exact (⟨by omega, by rw [← hI.2]; exact (firstE_step hxq (claE_0 (by show ¬ 16 < xr.length; omega) hset h19)).symm⟩)) (by dsimp only; omega) ⟨rfl, rfl, rfl, rfl, rfl, rfl, rfl, rfl, trivial⟩ (fun _ hs => by have h1 := (((((((((hs.pull (.there (.there (.there (.there (.there (.there (.there (.there .here))))))))).pull (.there (.there (.there (.there (.there .here)))))).pull (.there (.there (.there (.there (.there .here)))))).pull (.there (.there (.there (.there (.there .here)))))).pull (.there (.there (.there (.there (.there .here)))))).pull (.there (.there (.there (.there (.there .here)))))).pull (.there (.there (.there (.there (.there (.there .here))))))).drop.pull (.there (.there (.there (.there (.there (.there .here))))))).drop.pull (.there (.there (.there (.there (.there (.there .here))))))).drop; dsimp only; rw [mapT _ hx, ← List.append_assoc]; exact h1) 
            · refine Ops.cp en_57 rfl (fun w hs => dF (in_c _ _ _ w) h19) ?_
              refine Ops.q (q_not rfl) ?_
              refine Ops.to rfl ?_
              refine Cd.cond_t rfl ?_
              refine Cd.seq ?_
              refine Cd.region ?_
              refine Ops.q (q_bld [.slice none 0 0, .int .i64 0, .slice none 0 0] pls_32 zc_32 rfl rfl) ?_
              refine Ops.stB [.slice none 0 0, .int .i64 0, .slice none 0 0] [.slice none 0 0, .int .i64 0, .slice none 0 0] sz_32 rfl rfl rfl (one rfl) (.there (.there (.there (.there (.there (.there (.there .here))))))) rfl rfl ?_
              refine Ops.q (q_asg rfl) ?_
              refine Ops.to rfl ?_
              refine Cd.rt (fn := Try.f26) [.agg [.slice none 0 0, .int .i64 0, .slice none 0 0].toArray, .int .i64 4] (by with_reducible repeat (first | exact rq_here | apply rq_then | apply rq_block)) rfl ⟨⟨_, _, rfl, fun _ hs => run_loadN isA_32 sz_32 (fun o u hu => Sat.atB (.there (.there (.there (.there (.there (.there (.there .here))))))) (by rw [Nat.zero_add]; exact hu) hs)⟩, rfl, trivial⟩ ?_
              intro w' hs'
              have h8 : claE (m : Int) (xr, xt) = 4 := claE_4 (by show ¬ 16 < xr.length; omega) hset h19
              have h9 : firstE (claE (m : Int)) (ls.map clP) = 4 := by rw [← hI.2, firstE_stop hxq (by rw [h8]; decide), h8]
              rw [show hornP (m : Int) (ls.map clP) = .error (4) by unfold hornP; rw [if_pos h2, if_neg (by rw [List.length_map]; omega), h9, if_pos (by decide)]]
              exact ⟨rfl, hs'.none⟩
          · refine Ops.q (q_cmp rfl rfl (c_ne hset)) ?_
            refine Ops.to rfl ?_
            refine Cd.cond_t rfl ?_
            refine Cd.seq ?_
            refine Cd.region ?_
            refine Ops.q (q_bld [.slice none 0 0, .int .i64 0, .slice none 0 0] pls_32 zc_32 rfl rfl) ?_
            refine Ops.q (q_mv rfl) ?_
            refine Ops.stB [.slice none 0 0, .int .i64 0, .slice none 0 0] [.slice none 0 0, .int .i64 0, .slice none 0 0] sz_32 rfl rfl rfl (one rfl) (.there (.there (.there (.there (.there (.there (.there .here))))))) rfl rfl ?_
            refine Ops.q (q_asg rfl) ?_
            refine Ops.to rfl ?_
            refine Cd.rt (fn := Try.f26) [.agg [.slice none 0 0, .int .i64 0, .slice none 0 0].toArray, .int .i64 (setE (m : Int) xr)] (by with_reducible repeat (first | exact rq_here | apply rq_then | apply rq_block)) rfl ⟨⟨_, _, rfl, fun _ hs => run_loadN isA_32 sz_32 (fun o u hu => Sat.atB (.there (.there (.there (.there (.there (.there (.there .here))))))) (by rw [Nat.zero_add]; exact hu) hs)⟩, rfl, trivial⟩ ?_
            intro w' hs'
            have h8 : claE (m : Int) (xr, xt) = setE (m : Int) xr := claE_s (by show ¬ 16 < xr.length; omega) hset
            have h9 : firstE (claE (m : Int)) (ls.map clP) = setE (m : Int) xr := by rw [← hI.2, firstE_stop hxq (by rw [h8]; exact hset), h8]
            rw [show hornP (m : Int) (ls.map clP) = .error (setE (m : Int) xr) by unfold hornP; rw [if_pos h2, if_neg (by rw [List.length_map]; omega), h9, if_pos (by exact hset)]]
            exact ⟨rfl, hs'.none⟩
      · refine Ops.q (q_cmp rfl rfl (c_nlt (by omega))) ?_
        have h9 : firstE (claE (m : Int)) (ls.map clP) = 0 := by rw [← hI.2, firstE_end (by rw [List.length_map]; omega)]
        have h16 : ∀ x ∈ (ls.map clP), x.1.length ≤ 16 := fun x hx => claE_16 (firstE_zero h9 x hx)
        refine Ops.to rfl ?_
        refine Cd.seq ?_
        refine Cd.cond_f rfl ?_
        refine Cd.exitTo rfl ?_
        refine Cd.seq ?_
        refine Cd.region ?_
        refine Ops.cm (α := Option Addr × Nat) (v := fun _ => .tuple #[]) (A' := fun p => [blk b4 114 [.slice pa (((([] : List Prm) ++ (List.replicate (m + 1) (1 : Int)).map (setTh (onceP 0))) ++ (ls.take k).map (fun l : CL => setTh (onceP 0) (max 1 (l.1.2.length : Int)))).length) pc, .int .i64 1, .slice p.1 ((([] : List Syn) ++ selvesFrom 0 ((([] : List Prm) ++ (List.replicate (m + 1) (1 : Int)).map (setTh (onceP 0))) ++ (ls.take k).map (fun l : CL => setTh (onceP 0) (max 1 (l.1.2.length : Int)))).length).length) p.2], row pa pc 116 8 (((([] : List Prm) ++ (List.replicate (m + 1) (1 : Int)).map (setTh (onceP 0))) ++ (ls.take k).map (fun l : CL => setTh (onceP 0) (max 1 (l.1.2.length : Int)))).length) (((([] : List Prm) ++ (List.replicate (m + 1) (1 : Int)).map (setTh (onceP 0))) ++ (ls.take k).map (fun l : CL => setTh (onceP 0) (max 1 (l.1.2.length : Int)))).flatMap ePrm), row p.1 p.2 126 4 ((([] : List Syn) ++ selvesFrom 0 ((([] : List Prm) ++ (List.replicate (m + 1) (1 : Int)).map (setTh (onceP 0))) ++ (ls.take k).map (fun l : CL => setTh (onceP 0) (max 1 (l.1.2.length : Int)))).length).length) ((([] : List Syn) ++ selvesFrom 0 ((([] : List Prm) ++ (List.replicate (m + 1) (1 : Int)).map (setTh (onceP 0))) ++ (ls.take k).map (fun l : CL => setTh (onceP 0) (max 1 (l.1.2.length : Int)))).length).flatMap eSyn), blk pb5 116 (ePrm (onceP 0)), blk bb6 161 [.pointer (some ⟨b4, 0, none⟩)], blk b1 32 [.slice none 0 0, .int .i64 0, .slice none 0 0]]) en_61 rfl (fun w hs => selves_c _ _ _ _ _ ((([] : List Prm) ++ (List.replicate (m + 1) (1 : Int)).map (setTh (onceP 0))) ++ (ls.take k).map (fun l : CL => setTh (onceP 0) (max 1 (l.1.2.length : Int)))) _ ([] : List Syn) _ w _ (by simp only [List.length_append, List.length_map, List.length_take, List.length_cons, List.length_nil, List.length_replicate, selves_len]; omega) (by simp only [List.length_append, List.length_map, List.length_take, List.length_cons, List.length_nil, List.length_replicate, selves_len]; omega) (((((((hs.pull (.there (.there (.there (.there (.there .here)))))).pull (.there (.there (.there (.there (.there .here)))))).pull (.there (.there (.there (.there (.there .here)))))).pull (.there (.there (.there (.there (.there .here)))))).pull (.there (.there (.there (.there (.there .here)))))).pull (.there (.there (.there (.there (.there .here)))))))) ?_
        rintro ⟨a23, c24⟩
        refine Ops.to rfl ?_
        refine Cd.seq ?_
        refine Cd.seq ?_
        refine Cd.region ?_
        refine Ops.q (q_mv rfl) ?_
        refine Ops.q (q_len esz_52 rfl) ?_
        refine Ops.q (q_mv rfl) ?_
        refine Ops.to rfl ?_
        refine Cd.block ?_
        refine Cd.lp (σ := Nat × Option Addr × Nat) (fun s => s.1 ≤ ls.length) (fun s => [(0, .int .i64 (m : Int)), (4, .pointer (some ⟨b1, 0, none⟩)), (6, .pointer (some ⟨b4, 0, none⟩)), (72, .slice la ls.length lc), (73, .int .i64 (ls.length : Int)), (74, .int .i64 (s.1 : Int))]) (fun s => [blk b4 114 [.slice pa (((([] : List Prm) ++ (List.replicate (m + 1) (1 : Int)).map (setTh (onceP 0))) ++ (ls.take k).map (fun l : CL => setTh (onceP 0) (max 1 (l.1.2.length : Int)))).length) pc, .int .i64 1, .slice s.2.1 (((([] : List Syn) ++ selvesFrom 0 ((([] : List Prm) ++ (List.replicate (m + 1) (1 : Int)).map (setTh (onceP 0))) ++ (ls.take k).map (fun l : CL => setTh (onceP 0) (max 1 (l.1.2.length : Int)))).length) ++ clTo m (ls.map clP) s.1).length) s.2.2], row pa pc 116 8 (((([] : List Prm) ++ (List.replicate (m + 1) (1 : Int)).map (setTh (onceP 0))) ++ (ls.take k).map (fun l : CL => setTh (onceP 0) (max 1 (l.1.2.length : Int)))).length) (((([] : List Prm) ++ (List.replicate (m + 1) (1 : Int)).map (setTh (onceP 0))) ++ (ls.take k).map (fun l : CL => setTh (onceP 0) (max 1 (l.1.2.length : Int)))).flatMap ePrm), row s.2.1 s.2.2 126 4 (((([] : List Syn) ++ selvesFrom 0 ((([] : List Prm) ++ (List.replicate (m + 1) (1 : Int)).map (setTh (onceP 0))) ++ (ls.take k).map (fun l : CL => setTh (onceP 0) (max 1 (l.1.2.length : Int)))).length) ++ clTo m (ls.map clP) s.1).length) (((([] : List Syn) ++ selvesFrom 0 ((([] : List Prm) ++ (List.replicate (m + 1) (1 : Int)).map (setTh (onceP 0))) ++ (ls.take k).map (fun l : CL => setTh (onceP 0) (max 1 (l.1.2.length : Int)))).length) ++ clTo m (ls.map clP) s.1).flatMap eSyn), blk b1 32 [.slice none 0 0, .int .i64 0, .slice none 0 0]]) (fun s => ls.length - s.1) (0, a23, c24) (Nat.zero_le _) ⟨rfl, rfl, rfl, rfl, rfl, rfl, trivial⟩ (fun _ hs => by have h1 := ((((((hs.pull (.there (.there (.there (.there (.there .here)))))).pull (.there (.there (.there .here)))).pull (.there (.there (.there .here)))).pull (.there (.there (.there .here)))).pull (.there (.there (.there (.there .here))))).drop.pull (.there (.there (.there (.there .here))))).drop; dsimp only; rw [show ((([] : List Syn) ++ selvesFrom 0 ((([] : List Prm) ++ (List.replicate (m + 1) (1 : Int)).map (setTh (onceP 0))) ++ (ls.take k).map (fun l : CL => setTh (onceP 0) (max 1 (l.1.2.length : Int)))).length) ++ clTo m (ls.map clP) 0) = (([] : List Syn) ++ selvesFrom 0 ((([] : List Prm) ++ (List.replicate (m + 1) (1 : Int)).map (setTh (onceP 0))) ++ (ls.take k).map (fun l : CL => setTh (onceP 0) (max 1 (l.1.2.length : Int)))).length) from List.append_nil _]; exact h1) ?_
        rintro ⟨q, qa, qc⟩ hI
        dsimp only at hI
        change Cd _ _ _ _ _ _ _ [(0, .int .i64 (m : Int)), (4, .pointer (some ⟨b1, 0, none⟩)), (6, .pointer (some ⟨b4, 0, none⟩)), (72, .slice la ls.length lc), (73, .int .i64 (ls.length : Int)), (74, .int .i64 (q : Int))] ([blk b4 114 [.slice pa (((([] : List Prm) ++ (List.replicate (m + 1) (1 : Int)).map (setTh (onceP 0))) ++ (ls.take k).map (fun l : CL => setTh (onceP 0) (max 1 (l.1.2.length : Int)))).length) pc, .int .i64 1, .slice qa (((([] : List Syn) ++ selvesFrom 0 ((([] : List Prm) ++ (List.replicate (m + 1) (1 : Int)).map (setTh (onceP 0))) ++ (ls.take k).map (fun l : CL => setTh (onceP 0) (max 1 (l.1.2.length : Int)))).length) ++ clTo m (ls.map clP) q).length) qc], row pa pc 116 8 (((([] : List Prm) ++ (List.replicate (m + 1) (1 : Int)).map (setTh (onceP 0))) ++ (ls.take k).map (fun l : CL => setTh (onceP 0) (max 1 (l.1.2.length : Int)))).length) (((([] : List Prm) ++ (List.replicate (m + 1) (1 : Int)).map (setTh (onceP 0))) ++ (ls.take k).map (fun l : CL => setTh (onceP 0) (max 1 (l.1.2.length : Int)))).flatMap ePrm), row qa qc 126 4 (((([] : List Syn) ++ selvesFrom 0 ((([] : List Prm) ++ (List.replicate (m + 1) (1 : Int)).map (setTh (onceP 0))) ++ (ls.take k).map (fun l : CL => setTh (onceP 0) (max 1 (l.1.2.length : Int)))).length) ++ clTo m (ls.map clP) q).length) (((([] : List Syn) ++ selvesFrom 0 ((([] : List Prm) ++ (List.replicate (m + 1) (1 : Int)).map (setTh (onceP 0))) ++ (ls.take k).map (fun l : CL => setTh (onceP 0) (max 1 (l.1.2.length : Int)))).length) ++ clTo m (ls.map clP) q).flatMap eSyn), blk b1 32 [.slice none 0 0, .int .i64 0, .slice none 0 0]])
        refine Cd.seq ?_
        refine Cd.region ?_
        by_cases hq0 : (q : Int) < (ls.length : Int)
        · refine Ops.q (q_cmp rfl rfl (c_lt hq0)) ?_
          obtain ⟨⟨⟨⟨xa, xc⟩, xr⟩, xt⟩, hx⟩ : ∃ x, ls[q]? = some x := ⟨_, List.getElem?_eq_getElem (by omega)⟩
          have hxe : RoL w xa eInt xr := hL.2 _ (List.mem_iff_getElem?.2 ⟨q, hx⟩)
          skip
          have hxq : (ls.map clP)[q]? = some (xr, xt) := by rw [List.getElem?_map, hx]; rfl
          obtain ⟨lb, lo, rfl⟩ := RoL.pos hL.1 eCl_len hx
          have hcl := clTo_len (m := m) h16 q (by rw [List.length_map]; omega)
          have hxm := h16 _ (List.mem_iff_getElem?.2 ⟨q, hxq⟩)
          dsimp only at hxm
          refine Ops.to rfl ?_
          refine Cd.seq ?_
          refine Cd.cond_t rfl ?_
          refine Cd.skipTo rfl ?_
          refine Cd.seq ?_
          refine Cd.block ?_
          refine Cd.seq ?_
          refine Cd.region ?_
          refine Ops.q (q_mv rfl) ?_
          refine Ops.q (q_ix (k := q) esz_52 rfl rfl (by omega)) ?_
          refine Ops.q (q_ldRN [.slice xa xr.length xc, .int .i64 xt] isA_55 sz_55 rfl (fun j u hu => hL.1.at eCl_len hx hu)) ?_
          refine Ops.alc [.slice none 0 0, .int .i64 0] zc_55 ?_
          intro b25
          refine Ops.q (q_asg rfl) ?_
          refine Ops.stB [.slice xa xr.length xc, .int .i64 xt] [.slice xa xr.length xc, .int .i64 xt] sz_55 rfl rfl rfl (one rfl) .here rfl rfl ?_
          refine Ops.to rfl ?_
          refine Cd.seq ?_
          refine Cd.seq ?_
          refine Cd.region ?_
          refine Ops.q (q_fa fo_55_0 rfl) ?_
          refine Ops.q (q_ldB isA_26 rfl .here rfl) ?_
          refine Ops.q (q_len esz_26 rfl) ?_
          refine Ops.q (q_mv rfl) ?_
          refine Ops.to rfl ?_
          refine Cd.block ?_
          refine Cd.lp (σ := Nat × Option Addr × Nat) (fun s => s.1 ≤ xr.length) (fun s => [(0, .int .i64 (m : Int)), (4, .pointer (some ⟨b1, 0, none⟩)), (6, .pointer (some ⟨b4, 0, none⟩)), (72, .slice (some ⟨lb, lo, none⟩) ls.length lc), (73, .int .i64 (ls.length : Int)), (74, .int .i64 (q : Int)), (11, .int .i64 (q : Int)), (12, .pointer (some ⟨b25, 0, none⟩)), (80, .slice xa xr.length xc), (81, .int .i64 (xr.length : Int)), (82, .int .i64 (s.1 : Int))]) (fun s => [blk b4 114 [.slice pa (((([] : List Prm) ++ (List.replicate (m + 1) (1 : Int)).map (setTh (onceP 0))) ++ (ls.take k).map (fun l : CL => setTh (onceP 0) (max 1 (l.1.2.length : Int)))).length) pc, .int .i64 1, .slice s.2.1 ((((([] : List Syn) ++ selvesFrom 0 ((([] : List Prm) ++ (List.replicate (m + 1) (1 : Int)).map (setTh (onceP 0))) ++ (ls.take k).map (fun l : CL => setTh (onceP 0) (max 1 (l.1.2.length : Int)))).length) ++ clTo m (ls.map clP) q) ++ (xr.take s.1).map (fun t : Int => (⟨t, ((m + 1 + q : Nat) : Int), 1, 1⟩ : Syn))).length) s.2.2], row pa pc 116 8 (((([] : List Prm) ++ (List.replicate (m + 1) (1 : Int)).map (setTh (onceP 0))) ++ (ls.take k).map (fun l : CL => setTh (onceP 0) (max 1 (l.1.2.length : Int)))).length) (((([] : List Prm) ++ (List.replicate (m + 1) (1 : Int)).map (setTh (onceP 0))) ++ (ls.take k).map (fun l : CL => setTh (onceP 0) (max 1 (l.1.2.length : Int)))).flatMap ePrm), row s.2.1 s.2.2 126 4 ((((([] : List Syn) ++ selvesFrom 0 ((([] : List Prm) ++ (List.replicate (m + 1) (1 : Int)).map (setTh (onceP 0))) ++ (ls.take k).map (fun l : CL => setTh (onceP 0) (max 1 (l.1.2.length : Int)))).length) ++ clTo m (ls.map clP) q) ++ (xr.take s.1).map (fun t : Int => (⟨t, ((m + 1 + q : Nat) : Int), 1, 1⟩ : Syn))).length) ((((([] : List Syn) ++ selvesFrom 0 ((([] : List Prm) ++ (List.replicate (m + 1) (1 : Int)).map (setTh (onceP 0))) ++ (ls.take k).map (fun l : CL => setTh (onceP 0) (max 1 (l.1.2.length : Int)))).length) ++ clTo m (ls.map clP) q) ++ (xr.take s.1).map (fun t : Int => (⟨t, ((m + 1 + q : Nat) : Int), 1, 1⟩ : Syn))).flatMap eSyn), blk b25 55 [.slice xa xr.length xc, .int .i64 xt], blk b1 32 [.slice none 0 0, .int .i64 0, .slice none 0 0]]) (fun s => xr.length - s.1) (0, qa, qc) (Nat.zero_le _) ⟨rfl, rfl, rfl, rfl, rfl, rfl, rfl, rfl, rfl, rfl, rfl, trivial⟩ (fun _ hs => by have h1 := (((((hs.pull (.there (.there (.there (.there .here))))).pull (.there .here)).pull (.there (.there (.there (.there .here))))).pull (.there (.there (.there (.there .here))))).pull (.there (.there (.there (.there .here))))); dsimp only; rw [show (((([] : List Syn) ++ selvesFrom 0 ((([] : List Prm) ++ (List.replicate (m + 1) (1 : Int)).map (setTh (onceP 0))) ++ (ls.take k).map (fun l : CL => setTh (onceP 0) (max 1 (l.1.2.length : Int)))).length) ++ clTo m (ls.map clP) q) ++ (xr.take 0).map (fun t : Int => (⟨t, ((m + 1 + q : Nat) : Int), 1, 1⟩ : Syn))) = ((([] : List Syn) ++ selvesFrom 0 ((([] : List Prm) ++ (List.replicate (m + 1) (1 : Int)).map (setTh (onceP 0))) ++ (ls.take k).map (fun l : CL => setTh (onceP 0) (max 1 (l.1.2.length : Int)))).length) ++ clTo m (ls.map clP) q) from List.append_nil _]; exact h1) ?_
          rintro ⟨j, ra, rc⟩ hI
          dsimp only at hI
          change Cd _ _ _ _ _ _ _ [(0, .int .i64 (m : Int)), (4, .pointer (some ⟨b1, 0, none⟩)), (6, .pointer (some ⟨b4, 0, none⟩)), (72, .slice (some ⟨lb, lo, none⟩) ls.length lc), (73, .int .i64 (ls.length : Int)), (74, .int .i64 (q : Int)), (11, .int .i64 (q : Int)), (12, .pointer (some ⟨b25, 0, none⟩)), (80, .slice xa xr.length xc), (81, .int .i64 (xr.length : Int)), (82, .int .i64 (j : Int))] ([blk b4 114 [.slice pa (((([] : List Prm) ++ (List.replicate (m + 1) (1 : Int)).map (setTh (onceP 0))) ++ (ls.take k).map (fun l : CL => setTh (onceP 0) (max 1 (l.1.2.length : Int)))).length) pc, .int .i64 1, .slice ra ((((([] : List Syn) ++ selvesFrom 0 ((([] : List Prm) ++ (List.replicate (m + 1) (1 : Int)).map (setTh (onceP 0))) ++ (ls.take k).map (fun l : CL => setTh (onceP 0) (max 1 (l.1.2.length : Int)))).length) ++ clTo m (ls.map clP) q) ++ (xr.take j).map (fun t : Int => (⟨t, ((m + 1 + q : Nat) : Int), 1, 1⟩ : Syn))).length) rc], row pa pc 116 8 (((([] : List Prm) ++ (List.replicate (m + 1) (1 : Int)).map (setTh (onceP 0))) ++ (ls.take k).map (fun l : CL => setTh (onceP 0) (max 1 (l.1.2.length : Int)))).length) (((([] : List Prm) ++ (List.replicate (m + 1) (1 : Int)).map (setTh (onceP 0))) ++ (ls.take k).map (fun l : CL => setTh (onceP 0) (max 1 (l.1.2.length : Int)))).flatMap ePrm), row ra rc 126 4 ((((([] : List Syn) ++ selvesFrom 0 ((([] : List Prm) ++ (List.replicate (m + 1) (1 : Int)).map (setTh (onceP 0))) ++ (ls.take k).map (fun l : CL => setTh (onceP 0) (max 1 (l.1.2.length : Int)))).length) ++ clTo m (ls.map clP) q) ++ (xr.take j).map (fun t : Int => (⟨t, ((m + 1 + q : Nat) : Int), 1, 1⟩ : Syn))).length) ((((([] : List Syn) ++ selvesFrom 0 ((([] : List Prm) ++ (List.replicate (m + 1) (1 : Int)).map (setTh (onceP 0))) ++ (ls.take k).map (fun l : CL => setTh (onceP 0) (max 1 (l.1.2.length : Int)))).length) ++ clTo m (ls.map clP) q) ++ (xr.take j).map (fun t : Int => (⟨t, ((m + 1 + q : Nat) : Int), 1, 1⟩ : Syn))).flatMap eSyn), blk b25 55 [.slice xa xr.length xc, .int .i64 xt], blk b1 32 [.slice none 0 0, .int .i64 0, .slice none 0 0]])
          refine Cd.seq ?_
          refine Cd.region ?_
          by_cases hj : (j : Int) < (xr.length : Int)
          · refine Ops.q (q_cmp rfl rfl (c_lt hj)) ?_
            obtain ⟨x26, hx27⟩ : ∃ x, xr[j]? = some x := ⟨_, List.getElem?_eq_getElem (by omega)⟩
            obtain ⟨ab28, ao29, rfl⟩ := RoL.pos hxe eInt_len hx27
            refine Ops.to rfl ?_
            refine Cd.seq ?_
            refine Cd.cond_t rfl ?_
            refine Cd.skipTo rfl ?_
            refine Cd.seq ?_
            refine Cd.block ?_
            refine Cd.seq ?_
            refine Cd.region ?_
            refine Ops.q (q_ix (k := j) esz_26 rfl rfl (by omega)) ?_
            refine Ops.q (q_ldR isA_3 rfl (hxe.at0 eInt_len hx27 rfl)) ?_
            refine Ops.q (q_asg rfl) ?_
            refine Ops.to rfl ?_
            refine Cd.region ?_
            refine Ops.q (q_mv rfl) ?_
            refine Ops.q (q_mv rfl) ?_
            refine Ops.q (q_ar (v := ((m + 1 : Nat) : Int)) rfl rfl (a_inc (by omega))) ?_
            refine Ops.q (q_mv rfl) ?_
            refine Ops.q (q_ar (v := ((m + 1 + q : Nat) : Int)) rfl rfl ((by rw [a_add (by omega)]; rfl))) ?_
            refine Ops.cm (α := Option Addr × Nat) (v := fun _ => .tuple #[]) (A' := fun p => [blk b4 114 [.slice pa (((([] : List Prm) ++ (List.replicate (m + 1) (1 : Int)).map (setTh (onceP 0))) ++ (ls.take k).map (fun l : CL => setTh (onceP 0) (max 1 (l.1.2.length : Int)))).length) pc, .int .i64 1, .slice p.1 (((((([] : List Syn) ++ selvesFrom 0 ((([] : List Prm) ++ (List.replicate (m + 1) (1 : Int)).map (setTh (onceP 0))) ++ (ls.take k).map (fun l : CL => setTh (onceP 0) (max 1 (l.1.2.length : Int)))).length) ++ clTo m (ls.map clP) q) ++ (xr.take j).map (fun t : Int => (⟨t, ((m + 1 + q : Nat) : Int), 1, 1⟩ : Syn))) ++ [(⟨x26, ((m + 1 + q : Nat) : Int), 1, 1⟩ : Syn)]).length) p.2], row pa pc 116 8 (((([] : List Prm) ++ (List.replicate (m + 1) (1 : Int)).map (setTh (onceP 0))) ++ (ls.take k).map (fun l : CL => setTh (onceP 0) (max 1 (l.1.2.length : Int)))).length) (((([] : List Prm) ++ (List.replicate (m + 1) (1 : Int)).map (setTh (onceP 0))) ++ (ls.take k).map (fun l : CL => setTh (onceP 0) (max 1 (l.1.2.length : Int)))).flatMap ePrm), row p.1 p.2 126 4 (((((([] : List Syn) ++ selvesFrom 0 ((([] : List Prm) ++ (List.replicate (m + 1) (1 : Int)).map (setTh (onceP 0))) ++ (ls.take k).map (fun l : CL => setTh (onceP 0) (max 1 (l.1.2.length : Int)))).length) ++ clTo m (ls.map clP) q) ++ (xr.take j).map (fun t : Int => (⟨t, ((m + 1 + q : Nat) : Int), 1, 1⟩ : Syn))) ++ [(⟨x26, ((m + 1 + q : Nat) : Int), 1, 1⟩ : Syn)]).length) (((((([] : List Syn) ++ selvesFrom 0 ((([] : List Prm) ++ (List.replicate (m + 1) (1 : Int)).map (setTh (onceP 0))) ++ (ls.take k).map (fun l : CL => setTh (onceP 0) (max 1 (l.1.2.length : Int)))).length) ++ clTo m (ls.map clP) q) ++ (xr.take j).map (fun t : Int => (⟨t, ((m + 1 + q : Nat) : Int), 1, 1⟩ : Syn))) ++ [(⟨x26, ((m + 1 + q : Nat) : Int), 1, 1⟩ : Syn)]).flatMap eSyn), blk b25 55 [.slice (some ⟨ab28, ao29, none⟩) xr.length xc, .int .i64 xt], blk b1 32 [.slice none 0 0, .int .i64 0, .slice none 0 0]]) en_50 rfl (fun w hs => join_c _ _ _ _ _ ((([] : List Prm) ++ (List.replicate (m + 1) (1 : Int)).map (setTh (onceP 0))) ++ (ls.take k).map (fun l : CL => setTh (onceP 0) (max 1 (l.1.2.length : Int)))) _ (((([] : List Syn) ++ selvesFrom 0 ((([] : List Prm) ++ (List.replicate (m + 1) (1 : Int)).map (setTh (onceP 0))) ++ (ls.take k).map (fun l : CL => setTh (onceP 0) (max 1 (l.1.2.length : Int)))).length) ++ clTo m (ls.map clP) q) ++ (xr.take j).map (fun t : Int => (⟨t, ((m + 1 + q : Nat) : Int), 1, 1⟩ : Syn))) x26 ((m + 1 + q : Nat) : Int) 1 1 _ w _ (by simp only [List.length_append, List.length_map, List.length_take, List.length_cons, List.length_nil, List.length_replicate, selves_len]; omega) ((((((hs.pull (.there (.there (.there (.there .here))))).pull (.there (.there (.there (.there .here))))).pull (.there (.there (.there (.there .here))))).pull (.there (.there (.there (.there .here))))).pull (.there (.there (.there (.there .here))))))) ?_
            rintro ⟨a30, c31⟩
            refine Ops.to rfl ?_
            refine Cd.region ?_
            refine Ops.q (q_ar rfl rfl (a_inc (by omega))) ?_
            refine Ops.q (q_mv rfl) ?_
            refine Ops.rnd ((j + 1, a30, c31)) rfl (by dsimp only; exact (by omega)) (by dsimp only; omega) ⟨rfl, rfl, rfl, rfl, rfl, rfl, rfl, rfl, rfl, rfl, rfl, trivial⟩ (fun _ hs => by have h1 := (((((hs.pull (.there (.there (.there (.there .here))))).pull (.there (.there (.there (.there .here))))).pull (.there (.there (.there (.there .here))))).pull (.there (.there (.there (.there .here))))).pull (.there (.there (.there (.there .here))))); dsimp only; rw [mapT _ hx27, ← List.append_assoc]; exact h1) 
          · refine Ops.q (q_cmp rfl rfl (c_nlt (by omega))) ?_
            refine Ops.to rfl ?_
            refine Cd.seq ?_
            refine Cd.cond_f rfl ?_
            refine Cd.exitTo rfl ?_
            refine Cd.seq ?_
            refine Cd.seq ?_
            refine Cd.region ?_
            refine Ops.q (q_fa fo_55_0 rfl) ?_
            refine Ops.q (q_ldB isA_26 rfl (.there (.there (.there .here))) rfl) ?_
            refine Ops.q (q_len esz_26 rfl) ?_
            by_cases hemp : (xr.length : Int) = 0
            · refine Ops.q (q_cmp rfl rfl (c_eq hemp)) ?_
              refine Ops.to rfl ?_
              refine Cd.cond_t rfl ?_
              refine Cd.region ?_
              refine Ops.q (q_mv rfl) ?_
              refine Ops.q (q_ar (v := ((m + 1 : Nat) : Int)) rfl rfl (a_inc (by omega))) ?_
              refine Ops.q (q_mv rfl) ?_
              refine Ops.q (q_ar (v := ((m + 1 + q : Nat) : Int)) rfl rfl ((by rw [a_add (by omega)]; rfl))) ?_
              refine Ops.cm (α := Option Addr × Nat) (v := fun _ => .tuple #[]) (A' := fun p => [blk b4 114 [.slice pa (((([] : List Prm) ++ (List.replicate (m + 1) (1 : Int)).map (setTh (onceP 0))) ++ (ls.take k).map (fun l : CL => setTh (onceP 0) (max 1 (l.1.2.length : Int)))).length) pc, .int .i64 1, .slice p.1 (((((([] : List Syn) ++ selvesFrom 0 ((([] : List Prm) ++ (List.replicate (m + 1) (1 : Int)).map (setTh (onceP 0))) ++ (ls.take k).map (fun l : CL => setTh (onceP 0) (max 1 (l.1.2.length : Int)))).length) ++ clTo m (ls.map clP) q) ++ (xr.take j).map (fun t : Int => (⟨t, ((m + 1 + q : Nat) : Int), 1, 1⟩ : Syn))) ++ [(⟨-1 - 0, ((m + 1 + q : Nat) : Int), 1, 1⟩ : Syn)]).length) p.2], row pa pc 116 8 (((([] : List Prm) ++ (List.replicate (m + 1) (1 : Int)).map (setTh (onceP 0))) ++ (ls.take k).map (fun l : CL => setTh (onceP 0) (max 1 (l.1.2.length : Int)))).length) (((([] : List Prm) ++ (List.replicate (m + 1) (1 : Int)).map (setTh (onceP 0))) ++ (ls.take k).map (fun l : CL => setTh (onceP 0) (max 1 (l.1.2.length : Int)))).flatMap ePrm), row p.1 p.2 126 4 (((((([] : List Syn) ++ selvesFrom 0 ((([] : List Prm) ++ (List.replicate (m + 1) (1 : Int)).map (setTh (onceP 0))) ++ (ls.take k).map (fun l : CL => setTh (onceP 0) (max 1 (l.1.2.length : Int)))).length) ++ clTo m (ls.map clP) q) ++ (xr.take j).map (fun t : Int => (⟨t, ((m + 1 + q : Nat) : Int), 1, 1⟩ : Syn))) ++ [(⟨-1 - 0, ((m + 1 + q : Nat) : Int), 1, 1⟩ : Syn)]).length) (((((([] : List Syn) ++ selvesFrom 0 ((([] : List Prm) ++ (List.replicate (m + 1) (1 : Int)).map (setTh (onceP 0))) ++ (ls.take k).map (fun l : CL => setTh (onceP 0) (max 1 (l.1.2.length : Int)))).length) ++ clTo m (ls.map clP) q) ++ (xr.take j).map (fun t : Int => (⟨t, ((m + 1 + q : Nat) : Int), 1, 1⟩ : Syn))) ++ [(⟨-1 - 0, ((m + 1 + q : Nat) : Int), 1, 1⟩ : Syn)]).flatMap eSyn), blk b25 55 [.slice xa xr.length xc, .int .i64 xt], blk b1 32 [.slice none 0 0, .int .i64 0, .slice none 0 0]]) en_51 rfl (fun w hs => feed_c _ _ _ _ _ ((([] : List Prm) ++ (List.replicate (m + 1) (1 : Int)).map (setTh (onceP 0))) ++ (ls.take k).map (fun l : CL => setTh (onceP 0) (max 1 (l.1.2.length : Int)))) _ (((([] : List Syn) ++ selvesFrom 0 ((([] : List Prm) ++ (List.replicate (m + 1) (1 : Int)).map (setTh (onceP 0))) ++ (ls.take k).map (fun l : CL => setTh (onceP 0) (max 1 (l.1.2.length : Int)))).length) ++ clTo m (ls.map clP) q) ++ (xr.take j).map (fun t : Int => (⟨t, ((m + 1 + q : Nat) : Int), 1, 1⟩ : Syn))) 0 ((m + 1 + q : Nat) : Int) 1 1 _ w _ (by simp only [List.length_append, List.length_map, List.length_take, List.length_cons, List.length_nil, List.length_replicate, selves_len]; omega) (by omega) ((((((hs.pull (.there (.there (.there (.there .here))))).pull (.there (.there (.there (.there .here))))).pull (.there (.there (.there (.there .here))))).pull (.there (.there (.there (.there .here))))).pull (.there (.there (.there (.there .here))))))) ?_
              rintro ⟨a32, c33⟩
              refine Ops.to rfl ?_
              refine Cd.seq ?_
              refine Cd.region ?_
              refine Ops.q (q_fa fo_55_1 rfl) ?_
              refine Ops.q (q_ldB isA_3 rfl (.there (.there (.there .here))) rfl) ?_
              refine Ops.q (q_asg rfl) ?_
              refine Ops.to rfl ?_
              refine Cd.seq ?_
              refine Cd.seq ?_
              refine Cd.region ?_
              refine Ops.q (q_mv rfl) ?_
              by_cases h34 : xt < 0
              · refine Ops.q (q_cmp rfl rfl (c_lt h34)) ?_
                have hxt := h34
                refine Ops.to rfl ?_
                refine Cd.cond_t rfl ?_
                refine Cd.region ?_
                refine Ops.q (q_mv rfl) ?_
                refine Ops.q (q_asg rfl) ?_
                refine Ops.to rfl ?_
                refine Cd.region ?_
                refine Ops.q (q_mv rfl) ?_
                refine Ops.q (q_ar (v := ((m + 1 : Nat) : Int)) rfl rfl (a_inc (by omega))) ?_
                refine Ops.q (q_mv rfl) ?_
                refine Ops.q (q_ar (v := ((m + 1 + q : Nat) : Int)) rfl rfl ((by rw [a_add (by omega)]; rfl))) ?_
                refine Ops.q (q_mv rfl) ?_
                refine Ops.cm (α := Option Addr × Nat) (v := fun _ => .tuple #[]) (A' := fun p => [blk b4 114 [.slice pa (((([] : List Prm) ++ (List.replicate (m + 1) (1 : Int)).map (setTh (onceP 0))) ++ (ls.take k).map (fun l : CL => setTh (onceP 0) (max 1 (l.1.2.length : Int)))).length) pc, .int .i64 1, .slice p.1 ((((((([] : List Syn) ++ selvesFrom 0 ((([] : List Prm) ++ (List.replicate (m + 1) (1 : Int)).map (setTh (onceP 0))) ++ (ls.take k).map (fun l : CL => setTh (onceP 0) (max 1 (l.1.2.length : Int)))).length) ++ clTo m (ls.map clP) q) ++ (xr.take j).map (fun t : Int => (⟨t, ((m + 1 + q : Nat) : Int), 1, 1⟩ : Syn))) ++ [(⟨-1 - 0, ((m + 1 + q : Nat) : Int), 1, 1⟩ : Syn)]) ++ [(⟨((m + 1 + q : Nat) : Int), (m : Int), 1, 1⟩ : Syn)]).length) p.2], row pa pc 116 8 (((([] : List Prm) ++ (List.replicate (m + 1) (1 : Int)).map (setTh (onceP 0))) ++ (ls.take k).map (fun l : CL => setTh (onceP 0) (max 1 (l.1.2.length : Int)))).length) (((([] : List Prm) ++ (List.replicate (m + 1) (1 : Int)).map (setTh (onceP 0))) ++ (ls.take k).map (fun l : CL => setTh (onceP 0) (max 1 (l.1.2.length : Int)))).flatMap ePrm), row p.1 p.2 126 4 ((((((([] : List Syn) ++ selvesFrom 0 ((([] : List Prm) ++ (List.replicate (m + 1) (1 : Int)).map (setTh (onceP 0))) ++ (ls.take k).map (fun l : CL => setTh (onceP 0) (max 1 (l.1.2.length : Int)))).length) ++ clTo m (ls.map clP) q) ++ (xr.take j).map (fun t : Int => (⟨t, ((m + 1 + q : Nat) : Int), 1, 1⟩ : Syn))) ++ [(⟨-1 - 0, ((m + 1 + q : Nat) : Int), 1, 1⟩ : Syn)]) ++ [(⟨((m + 1 + q : Nat) : Int), (m : Int), 1, 1⟩ : Syn)]).length) ((((((([] : List Syn) ++ selvesFrom 0 ((([] : List Prm) ++ (List.replicate (m + 1) (1 : Int)).map (setTh (onceP 0))) ++ (ls.take k).map (fun l : CL => setTh (onceP 0) (max 1 (l.1.2.length : Int)))).length) ++ clTo m (ls.map clP) q) ++ (xr.take j).map (fun t : Int => (⟨t, ((m + 1 + q : Nat) : Int), 1, 1⟩ : Syn))) ++ [(⟨-1 - 0, ((m + 1 + q : Nat) : Int), 1, 1⟩ : Syn)]) ++ [(⟨((m + 1 + q : Nat) : Int), (m : Int), 1, 1⟩ : Syn)]).flatMap eSyn), blk b25 55 [.slice xa xr.length xc, .int .i64 xt], blk b1 32 [.slice none 0 0, .int .i64 0, .slice none 0 0]]) en_50 rfl (fun w hs => join_c _ _ _ _ _ ((([] : List Prm) ++ (List.replicate (m + 1) (1 : Int)).map (setTh (onceP 0))) ++ (ls.take k).map (fun l : CL => setTh (onceP 0) (max 1 (l.1.2.length : Int)))) _ ((((([] : List Syn) ++ selvesFrom 0 ((([] : List Prm) ++ (List.replicate (m + 1) (1 : Int)).map (setTh (onceP 0))) ++ (ls.take k).map (fun l : CL => setTh (onceP 0) (max 1 (l.1.2.length : Int)))).length) ++ clTo m (ls.map clP) q) ++ (xr.take j).map (fun t : Int => (⟨t, ((m + 1 + q : Nat) : Int), 1, 1⟩ : Syn))) ++ [(⟨-1 - 0, ((m + 1 + q : Nat) : Int), 1, 1⟩ : Syn)]) ((m + 1 + q : Nat) : Int) (m : Int) 1 1 _ w _ (by simp only [List.length_append, List.length_map, List.length_take, List.length_cons, List.length_nil, List.length_replicate, selves_len]; omega) ((((((hs.pull (.there (.there (.there (.there .here))))).pull (.there (.there (.there (.there .here))))).pull (.there (.there (.there (.there .here))))).pull (.there (.there (.there (.there .here))))).pull (.there (.there (.there (.there .here))))))) ?_
                rintro ⟨a35, c36⟩
                refine Ops.to rfl ?_
                refine Cd.region ?_
                refine Ops.q (q_ar rfl rfl (a_inc (by omega))) ?_
                refine Ops.q (q_mv rfl) ?_
                refine Ops.rnd ((q + 1, a35, c36)) rfl (by dsimp only; exact (by omega)) (by dsimp only; omega) ⟨rfl, rfl, rfl, rfl, rfl, rfl, trivial⟩ (fun _ hs => by have h1 := (((((hs.pull (.there (.there (.there (.there .here))))).pull (.there (.there (.there .here)))).pull (.there (.there (.there .here)))).pull (.there (.there (.there .here)))).pull (.there (.there (.there (.there .here))))).drop; rw [List.take_of_length_le (show xr.length ≤ j by omega)] at h1; dsimp only; rw [cl_stepE hxq (by omega) (by rw [if_pos (by omega)])]; exact h1) 
              · refine Ops.q (q_cmp rfl rfl (c_nlt (by omega))) ?_
                have hxt := h34
                refine Ops.to rfl ?_
                refine Cd.cond_f rfl ?_
                refine Cd.skipTo rfl ?_
                refine Cd.region ?_
                refine Ops.q (q_mv rfl) ?_
                refine Ops.q (q_ar (v := ((m + 1 : Nat) : Int)) rfl rfl (a_inc (by omega))) ?_
                refine Ops.q (q_mv rfl) ?_
                refine Ops.q (q_ar (v := ((m + 1 + q : Nat) : Int)) rfl rfl ((by rw [a_add (by omega)]; rfl))) ?_
                refine Ops.q (q_mv rfl) ?_
                refine Ops.cm (α := Option Addr × Nat) (v := fun _ => .tuple #[]) (A' := fun p => [blk b4 114 [.slice pa (((([] : List Prm) ++ (List.replicate (m + 1) (1 : Int)).map (setTh (onceP 0))) ++ (ls.take k).map (fun l : CL => setTh (onceP 0) (max 1 (l.1.2.length : Int)))).length) pc, .int .i64 1, .slice p.1 ((((((([] : List Syn) ++ selvesFrom 0 ((([] : List Prm) ++ (List.replicate (m + 1) (1 : Int)).map (setTh (onceP 0))) ++ (ls.take k).map (fun l : CL => setTh (onceP 0) (max 1 (l.1.2.length : Int)))).length) ++ clTo m (ls.map clP) q) ++ (xr.take j).map (fun t : Int => (⟨t, ((m + 1 + q : Nat) : Int), 1, 1⟩ : Syn))) ++ [(⟨-1 - 0, ((m + 1 + q : Nat) : Int), 1, 1⟩ : Syn)]) ++ [(⟨((m + 1 + q : Nat) : Int), xt, 1, 1⟩ : Syn)]).length) p.2], row pa pc 116 8 (((([] : List Prm) ++ (List.replicate (m + 1) (1 : Int)).map (setTh (onceP 0))) ++ (ls.take k).map (fun l : CL => setTh (onceP 0) (max 1 (l.1.2.length : Int)))).length) (((([] : List Prm) ++ (List.replicate (m + 1) (1 : Int)).map (setTh (onceP 0))) ++ (ls.take k).map (fun l : CL => setTh (onceP 0) (max 1 (l.1.2.length : Int)))).flatMap ePrm), row p.1 p.2 126 4 ((((((([] : List Syn) ++ selvesFrom 0 ((([] : List Prm) ++ (List.replicate (m + 1) (1 : Int)).map (setTh (onceP 0))) ++ (ls.take k).map (fun l : CL => setTh (onceP 0) (max 1 (l.1.2.length : Int)))).length) ++ clTo m (ls.map clP) q) ++ (xr.take j).map (fun t : Int => (⟨t, ((m + 1 + q : Nat) : Int), 1, 1⟩ : Syn))) ++ [(⟨-1 - 0, ((m + 1 + q : Nat) : Int), 1, 1⟩ : Syn)]) ++ [(⟨((m + 1 + q : Nat) : Int), xt, 1, 1⟩ : Syn)]).length) ((((((([] : List Syn) ++ selvesFrom 0 ((([] : List Prm) ++ (List.replicate (m + 1) (1 : Int)).map (setTh (onceP 0))) ++ (ls.take k).map (fun l : CL => setTh (onceP 0) (max 1 (l.1.2.length : Int)))).length) ++ clTo m (ls.map clP) q) ++ (xr.take j).map (fun t : Int => (⟨t, ((m + 1 + q : Nat) : Int), 1, 1⟩ : Syn))) ++ [(⟨-1 - 0, ((m + 1 + q : Nat) : Int), 1, 1⟩ : Syn)]) ++ [(⟨((m + 1 + q : Nat) : Int), xt, 1, 1⟩ : Syn)]).flatMap eSyn), blk b25 55 [.slice xa xr.length xc, .int .i64 xt], blk b1 32 [.slice none 0 0, .int .i64 0, .slice none 0 0]]) en_50 rfl (fun w hs => join_c _ _ _ _ _ ((([] : List Prm) ++ (List.replicate (m + 1) (1 : Int)).map (setTh (onceP 0))) ++ (ls.take k).map (fun l : CL => setTh (onceP 0) (max 1 (l.1.2.length : Int)))) _ ((((([] : List Syn) ++ selvesFrom 0 ((([] : List Prm) ++ (List.replicate (m + 1) (1 : Int)).map (setTh (onceP 0))) ++ (ls.take k).map (fun l : CL => setTh (onceP 0) (max 1 (l.1.2.length : Int)))).length) ++ clTo m (ls.map clP) q) ++ (xr.take j).map (fun t : Int => (⟨t, ((m + 1 + q : Nat) : Int), 1, 1⟩ : Syn))) ++ [(⟨-1 - 0, ((m + 1 + q : Nat) : Int), 1, 1⟩ : Syn)]) ((m + 1 + q : Nat) : Int) xt 1 1 _ w _ (by simp only [List.length_append, List.length_map, List.length_take, List.length_cons, List.length_nil, List.length_replicate, selves_len]; omega) ((((((hs.pull (.there (.there (.there (.there .here))))).pull (.there (.there (.there (.there .here))))).pull (.there (.there (.there (.there .here))))).pull (.there (.there (.there (.there .here))))).pull (.there (.there (.there (.there .here))))))) ?_
                rintro ⟨a37, c38⟩
                refine Ops.to rfl ?_
                refine Cd.region ?_
                refine Ops.q (q_ar rfl rfl (a_inc (by omega))) ?_
                refine Ops.q (q_mv rfl) ?_
                refine Ops.rnd ((q + 1, a37, c38)) rfl (by dsimp only; exact (by omega)) (by dsimp only; omega) ⟨rfl, rfl, rfl, rfl, rfl, rfl, trivial⟩ (fun _ hs => by have h1 := (((((hs.pull (.there (.there (.there (.there .here))))).pull (.there (.there (.there .here)))).pull (.there (.there (.there .here)))).pull (.there (.there (.there .here)))).pull (.there (.there (.there (.there .here))))).drop; rw [List.take_of_length_le (show xr.length ≤ j by omega)] at h1; dsimp only; rw [cl_stepE hxq (by omega) (by rw [if_neg (by omega)])]; exact h1) 
            · refine Ops.q (q_cmp rfl rfl (c_neq hemp)) ?_
              refine Ops.to rfl ?_
              refine Cd.cond_f rfl ?_
              refine Cd.skipTo rfl ?_
              refine Cd.seq ?_
              refine Cd.region ?_
              refine Ops.q (q_fa fo_55_1 rfl) ?_
              refine Ops.q (q_ldB isA_3 rfl (.there (.there (.there .here))) rfl) ?_
              refine Ops.q (q_asg rfl) ?_
              refine Ops.to rfl ?_
              refine Cd.seq ?_
              refine Cd.seq ?_
              refine Cd.region ?_
              refine Ops.q (q_mv rfl) ?_
              by_cases h39 : xt < 0
              · refine Ops.q (q_cmp rfl rfl (c_lt h39)) ?_
                have hxt := h39
                refine Ops.to rfl ?_
                refine Cd.cond_t rfl ?_
                refine Cd.region ?_
                refine Ops.q (q_mv rfl) ?_
                refine Ops.q (q_asg rfl) ?_
                refine Ops.to rfl ?_
                refine Cd.region ?_
                refine Ops.q (q_mv rfl) ?_
                refine Ops.q (q_ar (v := ((m + 1 : Nat) : Int)) rfl rfl (a_inc (by omega))) ?_
                refine Ops.q (q_mv rfl) ?_
                refine Ops.q (q_ar (v := ((m + 1 + q : Nat) : Int)) rfl rfl ((by rw [a_add (by omega)]; rfl))) ?_
                refine Ops.q (q_mv rfl) ?_
                refine Ops.cm (α := Option Addr × Nat) (v := fun _ => .tuple #[]) (A' := fun p => [blk b4 114 [.slice pa (((([] : List Prm) ++ (List.replicate (m + 1) (1 : Int)).map (setTh (onceP 0))) ++ (ls.take k).map (fun l : CL => setTh (onceP 0) (max 1 (l.1.2.length : Int)))).length) pc, .int .i64 1, .slice p.1 (((((([] : List Syn) ++ selvesFrom 0 ((([] : List Prm) ++ (List.replicate (m + 1) (1 : Int)).map (setTh (onceP 0))) ++ (ls.take k).map (fun l : CL => setTh (onceP 0) (max 1 (l.1.2.length : Int)))).length) ++ clTo m (ls.map clP) q) ++ (xr.take j).map (fun t : Int => (⟨t, ((m + 1 + q : Nat) : Int), 1, 1⟩ : Syn))) ++ [(⟨((m + 1 + q : Nat) : Int), (m : Int), 1, 1⟩ : Syn)]).length) p.2], row pa pc 116 8 (((([] : List Prm) ++ (List.replicate (m + 1) (1 : Int)).map (setTh (onceP 0))) ++ (ls.take k).map (fun l : CL => setTh (onceP 0) (max 1 (l.1.2.length : Int)))).length) (((([] : List Prm) ++ (List.replicate (m + 1) (1 : Int)).map (setTh (onceP 0))) ++ (ls.take k).map (fun l : CL => setTh (onceP 0) (max 1 (l.1.2.length : Int)))).flatMap ePrm), row p.1 p.2 126 4 (((((([] : List Syn) ++ selvesFrom 0 ((([] : List Prm) ++ (List.replicate (m + 1) (1 : Int)).map (setTh (onceP 0))) ++ (ls.take k).map (fun l : CL => setTh (onceP 0) (max 1 (l.1.2.length : Int)))).length) ++ clTo m (ls.map clP) q) ++ (xr.take j).map (fun t : Int => (⟨t, ((m + 1 + q : Nat) : Int), 1, 1⟩ : Syn))) ++ [(⟨((m + 1 + q : Nat) : Int), (m : Int), 1, 1⟩ : Syn)]).length) (((((([] : List Syn) ++ selvesFrom 0 ((([] : List Prm) ++ (List.replicate (m + 1) (1 : Int)).map (setTh (onceP 0))) ++ (ls.take k).map (fun l : CL => setTh (onceP 0) (max 1 (l.1.2.length : Int)))).length) ++ clTo m (ls.map clP) q) ++ (xr.take j).map (fun t : Int => (⟨t, ((m + 1 + q : Nat) : Int), 1, 1⟩ : Syn))) ++ [(⟨((m + 1 + q : Nat) : Int), (m : Int), 1, 1⟩ : Syn)]).flatMap eSyn), blk b25 55 [.slice xa xr.length xc, .int .i64 xt], blk b1 32 [.slice none 0 0, .int .i64 0, .slice none 0 0]]) en_50 rfl (fun w hs => join_c _ _ _ _ _ ((([] : List Prm) ++ (List.replicate (m + 1) (1 : Int)).map (setTh (onceP 0))) ++ (ls.take k).map (fun l : CL => setTh (onceP 0) (max 1 (l.1.2.length : Int)))) _ (((([] : List Syn) ++ selvesFrom 0 ((([] : List Prm) ++ (List.replicate (m + 1) (1 : Int)).map (setTh (onceP 0))) ++ (ls.take k).map (fun l : CL => setTh (onceP 0) (max 1 (l.1.2.length : Int)))).length) ++ clTo m (ls.map clP) q) ++ (xr.take j).map (fun t : Int => (⟨t, ((m + 1 + q : Nat) : Int), 1, 1⟩ : Syn))) ((m + 1 + q : Nat) : Int) (m : Int) 1 1 _ w _ (by simp only [List.length_append, List.length_map, List.length_take, List.length_cons, List.length_nil, List.length_replicate, selves_len]; omega) ((((((hs.pull (.there (.there (.there (.there .here))))).pull (.there (.there (.there (.there .here))))).pull (.there (.there (.there (.there .here))))).pull (.there (.there (.there (.there .here))))).pull (.there (.there (.there (.there .here))))))) ?_
                rintro ⟨a40, c41⟩
                refine Ops.to rfl ?_
                refine Cd.region ?_
                refine Ops.q (q_ar rfl rfl (a_inc (by omega))) ?_
                refine Ops.q (q_mv rfl) ?_
                refine Ops.rnd ((q + 1, a40, c41)) rfl (by dsimp only; exact (by omega)) (by dsimp only; omega) ⟨rfl, rfl, rfl, rfl, rfl, rfl, trivial⟩ (fun _ hs => by have h1 := (((((hs.pull (.there (.there (.there (.there .here))))).pull (.there (.there (.there .here)))).pull (.there (.there (.there .here)))).pull (.there (.there (.there .here)))).pull (.there (.there (.there (.there .here))))).drop; rw [List.take_of_length_le (show xr.length ≤ j by omega)] at h1; dsimp only; rw [cl_stepN hxq (by omega) (by rw [if_pos (by omega)])]; exact h1) 
              · refine Ops.q (q_cmp rfl rfl (c_nlt (by omega))) ?_
                have hxt := h39
                refine Ops.to rfl ?_
                refine Cd.cond_f rfl ?_
                refine Cd.skipTo rfl ?_
                refine Cd.region ?_
                refine Ops.q (q_mv rfl) ?_
                refine Ops.q (q_ar (v := ((m + 1 : Nat) : Int)) rfl rfl (a_inc (by omega))) ?_
                refine Ops.q (q_mv rfl) ?_
                refine Ops.q (q_ar (v := ((m + 1 + q : Nat) : Int)) rfl rfl ((by rw [a_add (by omega)]; rfl))) ?_
                refine Ops.q (q_mv rfl) ?_
                refine Ops.cm (α := Option Addr × Nat) (v := fun _ => .tuple #[]) (A' := fun p => [blk b4 114 [.slice pa (((([] : List Prm) ++ (List.replicate (m + 1) (1 : Int)).map (setTh (onceP 0))) ++ (ls.take k).map (fun l : CL => setTh (onceP 0) (max 1 (l.1.2.length : Int)))).length) pc, .int .i64 1, .slice p.1 (((((([] : List Syn) ++ selvesFrom 0 ((([] : List Prm) ++ (List.replicate (m + 1) (1 : Int)).map (setTh (onceP 0))) ++ (ls.take k).map (fun l : CL => setTh (onceP 0) (max 1 (l.1.2.length : Int)))).length) ++ clTo m (ls.map clP) q) ++ (xr.take j).map (fun t : Int => (⟨t, ((m + 1 + q : Nat) : Int), 1, 1⟩ : Syn))) ++ [(⟨((m + 1 + q : Nat) : Int), xt, 1, 1⟩ : Syn)]).length) p.2], row pa pc 116 8 (((([] : List Prm) ++ (List.replicate (m + 1) (1 : Int)).map (setTh (onceP 0))) ++ (ls.take k).map (fun l : CL => setTh (onceP 0) (max 1 (l.1.2.length : Int)))).length) (((([] : List Prm) ++ (List.replicate (m + 1) (1 : Int)).map (setTh (onceP 0))) ++ (ls.take k).map (fun l : CL => setTh (onceP 0) (max 1 (l.1.2.length : Int)))).flatMap ePrm), row p.1 p.2 126 4 (((((([] : List Syn) ++ selvesFrom 0 ((([] : List Prm) ++ (List.replicate (m + 1) (1 : Int)).map (setTh (onceP 0))) ++ (ls.take k).map (fun l : CL => setTh (onceP 0) (max 1 (l.1.2.length : Int)))).length) ++ clTo m (ls.map clP) q) ++ (xr.take j).map (fun t : Int => (⟨t, ((m + 1 + q : Nat) : Int), 1, 1⟩ : Syn))) ++ [(⟨((m + 1 + q : Nat) : Int), xt, 1, 1⟩ : Syn)]).length) (((((([] : List Syn) ++ selvesFrom 0 ((([] : List Prm) ++ (List.replicate (m + 1) (1 : Int)).map (setTh (onceP 0))) ++ (ls.take k).map (fun l : CL => setTh (onceP 0) (max 1 (l.1.2.length : Int)))).length) ++ clTo m (ls.map clP) q) ++ (xr.take j).map (fun t : Int => (⟨t, ((m + 1 + q : Nat) : Int), 1, 1⟩ : Syn))) ++ [(⟨((m + 1 + q : Nat) : Int), xt, 1, 1⟩ : Syn)]).flatMap eSyn), blk b25 55 [.slice xa xr.length xc, .int .i64 xt], blk b1 32 [.slice none 0 0, .int .i64 0, .slice none 0 0]]) en_50 rfl (fun w hs => join_c _ _ _ _ _ ((([] : List Prm) ++ (List.replicate (m + 1) (1 : Int)).map (setTh (onceP 0))) ++ (ls.take k).map (fun l : CL => setTh (onceP 0) (max 1 (l.1.2.length : Int)))) _ (((([] : List Syn) ++ selvesFrom 0 ((([] : List Prm) ++ (List.replicate (m + 1) (1 : Int)).map (setTh (onceP 0))) ++ (ls.take k).map (fun l : CL => setTh (onceP 0) (max 1 (l.1.2.length : Int)))).length) ++ clTo m (ls.map clP) q) ++ (xr.take j).map (fun t : Int => (⟨t, ((m + 1 + q : Nat) : Int), 1, 1⟩ : Syn))) ((m + 1 + q : Nat) : Int) xt 1 1 _ w _ (by simp only [List.length_append, List.length_map, List.length_take, List.length_cons, List.length_nil, List.length_replicate, selves_len]; omega) ((((((hs.pull (.there (.there (.there (.there .here))))).pull (.there (.there (.there (.there .here))))).pull (.there (.there (.there (.there .here))))).pull (.there (.there (.there (.there .here))))).pull (.there (.there (.there (.there .here))))))) ?_
                rintro ⟨a42, c43⟩
                refine Ops.to rfl ?_
                refine Cd.region ?_
                refine Ops.q (q_ar rfl rfl (a_inc (by omega))) ?_
                refine Ops.q (q_mv rfl) ?_
                refine Ops.rnd ((q + 1, a42, c43)) rfl (by dsimp only; exact (by omega)) (by dsimp only; omega) ⟨rfl, rfl, rfl, rfl, rfl, rfl, trivial⟩ (fun _ hs => by have h1 := (((((hs.pull (.there (.there (.there (.there .here))))).pull (.there (.there (.there .here)))).pull (.there (.there (.there .here)))).pull (.there (.there (.there .here)))).pull (.there (.there (.there (.there .here))))).drop; rw [List.take_of_length_le (show xr.length ≤ j by omega)] at h1; dsimp only; rw [cl_stepN hxq (by omega) (by rw [if_neg (by omega)])]; exact h1) 
        · refine Ops.q (q_cmp rfl rfl (c_nlt (by omega))) ?_
          refine Ops.to rfl ?_
          refine Cd.seq ?_
          refine Cd.cond_f rfl ?_
          refine Cd.exitTo rfl ?_
          refine Cd.seq ?_
          refine Cd.region ?_
          refine Ops.q (q_fa fo_114_0 rfl) ?_
          refine Ops.q (q_ldBN [.slice pa (((([] : List Prm) ++ (List.replicate (m + 1) (1 : Int)).map (setTh (onceP 0))) ++ (ls.take k).map (fun l : CL => setTh (onceP 0) (max 1 (l.1.2.length : Int)))).length) pc, .int .i64 1, .slice qa (((([] : List Syn) ++ selvesFrom 0 ((([] : List Prm) ++ (List.replicate (m + 1) (1 : Int)).map (setTh (onceP 0))) ++ (ls.take k).map (fun l : CL => setTh (onceP 0) (max 1 (l.1.2.length : Int)))).length) ++ clTo m (ls.map clP) q).length) qc] isA_32 sz_32 rfl .here rfl) ?_
          refine Ops.stB [.slice pa (((([] : List Prm) ++ (List.replicate (m + 1) (1 : Int)).map (setTh (onceP 0))) ++ (ls.take k).map (fun l : CL => setTh (onceP 0) (max 1 (l.1.2.length : Int)))).length) pc, .int .i64 1, .slice qa (((([] : List Syn) ++ selvesFrom 0 ((([] : List Prm) ++ (List.replicate (m + 1) (1 : Int)).map (setTh (onceP 0))) ++ (ls.take k).map (fun l : CL => setTh (onceP 0) (max 1 (l.1.2.length : Int)))).length) ++ clTo m (ls.map clP) q).length) qc] [.slice pa (((([] : List Prm) ++ (List.replicate (m + 1) (1 : Int)).map (setTh (onceP 0))) ++ (ls.take k).map (fun l : CL => setTh (onceP 0) (max 1 (l.1.2.length : Int)))).length) pc, .int .i64 1, .slice qa (((([] : List Syn) ++ selvesFrom 0 ((([] : List Prm) ++ (List.replicate (m + 1) (1 : Int)).map (setTh (onceP 0))) ++ (ls.take k).map (fun l : CL => setTh (onceP 0) (max 1 (l.1.2.length : Int)))).length) ++ clTo m (ls.map clP) q).length) qc] sz_32 rfl rfl rfl (one rfl) (.there (.there (.there .here))) rfl rfl ?_
          refine Ops.q (q_asg rfl) ?_
          refine Ops.to rfl ?_
          refine Cd.rt (fn := Try.f26) [.agg [.slice pa (((([] : List Prm) ++ (List.replicate (m + 1) (1 : Int)).map (setTh (onceP 0))) ++ (ls.take k).map (fun l : CL => setTh (onceP 0) (max 1 (l.1.2.length : Int)))).length) pc, .int .i64 1, .slice qa (((([] : List Syn) ++ selvesFrom 0 ((([] : List Prm) ++ (List.replicate (m + 1) (1 : Int)).map (setTh (onceP 0))) ++ (ls.take k).map (fun l : CL => setTh (onceP 0) (max 1 (l.1.2.length : Int)))).length) ++ clTo m (ls.map clP) q).length) qc].toArray, .int .i64 0] (by with_reducible repeat (first | exact rq_here | apply rq_then | apply rq_block)) rfl ⟨⟨_, _, rfl, fun _ hs => run_loadN isA_32 sz_32 (fun o u hu => Sat.atB (.there (.there (.there .here))) (by rw [Nat.zero_add]; exact hu) hs)⟩, rfl, trivial⟩ ?_
          intro w' hs'
          have hq : q = ls.length := by omega
          rw [hq, List.take_of_length_le (show ls.length ≤ k by omega)] at hs'
          have hP : hornP (m : Int) (ls.map clP) = .ok ⟨((([] : List Prm) ++ (List.replicate (m + 1) (1 : Int)).map (setTh (onceP 0))) ++ ls.map (fun l : CL => setTh (onceP 0) (max 1 (l.1.2.length : Int)))), 1, ((([] : List Syn) ++ selvesFrom 0 ((([] : List Prm) ++ (List.replicate (m + 1) (1 : Int)).map (setTh (onceP 0))) ++ ls.map (fun l : CL => setTh (onceP 0) (max 1 (l.1.2.length : Int)))).length) ++ clTo m (ls.map clP) ls.length)⟩ := by unfold hornP; rw [if_pos h2, if_neg (by rw [List.length_map]; omega), h9, if_neg (by decide)]; simp only [List.nil_append, List.length_append, List.length_map, List.length_replicate, List.map_replicate, List.map_map, Int.toNat_natCast]; rfl
          rw [hP]
          exact ⟨(pa, pc), (qa, qc), by rw [hq, List.take_of_length_le (show ls.length ≤ k by omega)]; rfl, ((((hs'.pull (.there (.there .here))).pull (.there (.there .here))).pull (.there (.there .here))).drop.pull (.there (.there .here))).drop⟩
  · refine Ops.cp en_57 rfl (fun w hs => dF (in_c _ _ _ w) h2) ?_
    refine Ops.q (q_not rfl) ?_
    refine Ops.q (q_asg rfl) ?_
    refine Ops.to rfl ?_
    refine Cd.cond_t rfl ?_
    refine Cd.seq ?_
    refine Cd.region ?_
    refine Ops.q (q_bld [.slice none 0 0, .int .i64 0, .slice none 0 0] pls_32 zc_32 rfl rfl) ?_
    refine Ops.stB [.slice none 0 0, .int .i64 0, .slice none 0 0] [.slice none 0 0, .int .i64 0, .slice none 0 0] sz_32 rfl rfl rfl (one rfl) .here rfl rfl ?_
    refine Ops.q (q_asg rfl) ?_
    refine Ops.to rfl ?_
    refine Cd.rt (fn := Try.f26) [.agg [.slice none 0 0, .int .i64 0, .slice none 0 0].toArray, .int .i64 3] (by with_reducible repeat (first | exact rq_here | apply rq_then | apply rq_block)) rfl ⟨⟨_, _, rfl, fun _ hs => run_loadN isA_32 sz_32 (fun o u hu => Sat.atB .here (by rw [Nat.zero_add]; exact hu) hs)⟩, rfl, trivial⟩ ?_
    intro w' hs'
    rw [show hornP n (ls.map clP) = .error 3 by unfold hornP; rw [if_neg h2]]
    exact ⟨rfl, hs'.none⟩
end Go.Proofs.Ytilcdghliigngaa
namespace Go.Proofs.Ytilcdghliigngaa
open Go.RowKit Go.Proofs.YtilcdghliigngaaGl Go.Proofs.YtilcdghliigngaaPm
set_option linter.unusedVariables false
set_option linter.unusedSimpArgs false
abbrev PR := NL × NL
abbrev prP (l : PR) : List Int × List Int := (l.1.2, l.2.2)
def ePr (l : PR) : List Value := [.slice l.1.1.1 l.1.2.length l.1.1.2, .slice l.2.1.1 l.2.2.length l.2.1.2]
theorem ePr_len (l : PR) : (ePr l).length = 2 := rfl
def RoPR (w : World) (a : Option Addr) (ls : List PR) : Prop := RoL w a ePr ls ∧ ∀ l ∈ ls, RoL w l.1.1.1 eInt l.1.2 ∧ RoL w l.2.1.1 eInt l.2.2
theorem RoPR.later {w w' : World} {a : Option Addr} {ls : List PR} (h : RoPR w a ls) (hb : Below w.heap.size w w') : RoPR w' a ls := ⟨RoL.later h.1 hb, fun l hl => ⟨RoL.later (h.2 l hl).1 hb, RoL.later (h.2 l hl).2 hb⟩⟩
def memE (m n : Int) (p : List Int × List Int) : Int := if setE m p.1 = 4 ∨ setE n p.2 = 4 then 4 else if setE m p.1 ≠ 0 ∨ setE n p.2 ≠ 0 then 5 else 0
def prodS (p : List Int × List Int) : List (Int × Int) := p.2.flatMap fun j => p.1.map fun i => (i, j)
def togS (ps : List (List Int × List Int)) : List (Int × Int) := ps.flatMap prodS
def memCell (S : List (Int × Int)) (j i : Nat) : List Syn := if ((i : Int), (j : Int)) ∈ S then [] else [⟨-1 - (i : Int), (j : Int), -1, 1⟩]
def memRow (m : Nat) (S : List (Int × Int)) (j i : Nat) : List Syn := (List.range i).flatMap (memCell S j)
def memTo (m : Nat) (S : List (Int × Int)) (j : Nat) : List Syn := (List.range j).flatMap fun q => [⟨-1 - (m : Int), (q : Int), 1, 1⟩] ++ memRow m S q m
def memP (m n : Int) (ps : List (List Int × List Int)) : Except Int NetP :=
  if wi m 1 64 ∧ wi n 1 64 then
    if 256 < ps.length then .error 9
    else if firstE (memE m n) ps ≠ 0 then .error (firstE (memE m n) ps)
    else .ok ⟨List.replicate n.toNat (gateP 1), m + 1, memTo m.toNat (togS ps) n.toNat⟩
  else .error 3
theorem memCell_len (S : List (Int × Int)) (j i : Nat) : (memCell S j i).length ≤ 1 := by unfold memCell; split <;> simp
theorem memRow_len (m : Nat) (S : List (Int × Int)) (j : Nat) : ∀ i, (memRow m S j i).length ≤ i
  | 0 => by simp [memRow]
  | i + 1 => by
    have ih := memRow_len m S j i
    have h := memCell_len S j i
    unfold memRow at ih ⊢
    rw [rf_app, List.length_append]; omega
theorem memTo_len (m : Nat) (S : List (Int × Int)) : ∀ j, (memTo m S j).length ≤ j * (m + 1)
  | 0 => by simp [memTo]
  | j + 1 => by
    have ih := memTo_len m S j
    have h := memRow_len m S j m
    unfold memTo at ih ⊢
    rw [rf_app, List.length_append, List.length_append, Nat.succ_mul]
    simp only [List.length_cons, List.length_nil]; omega
theorem memRow_step {m j i : Nat} {S : List (Int × Int)} (X : List Syn) : X ++ memRow m S j (i + 1) = (X ++ memRow m S j i) ++ memCell S j i := by
  unfold memRow; rw [rf_app, List.append_assoc]
theorem memTo_step {m j : Nat} {S : List (Int × Int)} (X : List Syn) : X ++ memTo m S (j + 1) = ((X ++ memTo m S j) ++ [⟨-1 - (m : Int), (j : Int), 1, 1⟩]) ++ memRow m S j m := by
  unfold memTo; rw [rf_app]; simp
def tgL (S : List (Int × Int)) : List Bool := (List.range 4096).map fun q => decide ((((q % 64 : Nat) : Int), ((q / 64 : Nat) : Int)) ∈ S)
theorem tgL_len (S : List (Int × Int)) : (tgL S).length = 4096 := by simp [tgL]
theorem tgL_get {S : List (Int × Int)} {i j : Nat} (hi : i < 64) (hj : j < 64) : (tgL S)[j * 64 + i]? = some (decide (((i : Int), (j : Int)) ∈ S)) := by
  have h1 : (j * 64 + i) % 64 = i := by omega
  have h2 : (j * 64 + i) / 64 = j := by omega
  unfold tgL
  rw [List.getElem?_map, List.getElem?_range (by omega)]
  simp only [Option.map_some, h1, h2]
theorem tgL_set {S : List (Int × Int)} {i j : Nat} (hi : i < 64) (hj : j < 64) : (tgL S).set (j * 64 + i) true = tgL (S ++ [((i : Int), (j : Int))]) := by
  apply List.ext_getElem?
  intro q
  rw [List.getElem?_set, tgL_len]
  by_cases hq : q < 4096
  · have e : ∀ S, (tgL S)[q]? = some (decide ((((q % 64 : Nat) : Int), ((q / 64 : Nat) : Int)) ∈ S)) := fun S => by
      unfold tgL; rw [List.getElem?_map, List.getElem?_range hq]; rfl
    rw [e, e]
    by_cases h : j * 64 + i = q
    · subst h
      have h1 : (j * 64 + i) % 64 = i := by omega
      have h2 : (j * 64 + i) / 64 = j := by omega
      rw [if_pos rfl, if_pos (by omega), h1, h2]
      simp
    · rw [if_neg h]
      have hne : ¬ (((q % 64 : Nat) : Int), ((q / 64 : Nat) : Int)) = ((i : Int), (j : Int)) := fun e => by
        simp only [Prod.mk.injEq] at e; omega
      rw [decide_eq_decide.2 (show _ ∈ S ↔ _ ∈ S ++ [_] from by rw [List.mem_append, List.mem_singleton]; exact ⟨.inl, fun h => h.resolve_right hne⟩)]
  · rw [if_neg (by omega)]
    rw [List.getElem?_eq_none (by rw [tgL_len]; omega), List.getElem?_eq_none (by rw [tgL_len]; omega)]
theorem fmB (xs : List Bool) : xs.flatMap eBool = xs.map .bool := by
  induction xs with
  | nil => rfl
  | cons x xs ih => rw [List.flatMap_cons, ih]; rfl
theorem tg0 : (tgL []).flatMap eBool = List.replicate 4096 (.bool false) := by
  rw [fmB, tgL, List.map_map]
  refine List.eq_replicate_iff.2 ⟨by simp, fun b hb => ?_⟩
  obtain ⟨q, _, rfl⟩ := List.mem_map.1 hb
  simp
theorem zc_135 : zc Try.prog 135 = some (List.replicate 4096 (.bool false)) := by kernel_rfl
theorem tg_get {S : List (Int × Int)} {i j : Nat} (hi : i < 64) (hj : j < 64) : ((tgL S).flatMap eBool)[0 + j * 64 + i * 1]? = some (.bool (decide (((i : Int), (j : Int)) ∈ S))) := by
  rw [fmB, List.getElem?_map, show 0 + j * 64 + i * 1 = j * 64 + i by omega, tgL_get hi hj]; rfl
theorem tg_set {S : List (Int × Int)} {i j : Nat} (hi : i < 64) (hj : j < 64) : ((tgL S).flatMap eBool).take (0 + j * 64 + i * 1) ++ [.bool true] ++ ((tgL S).flatMap eBool).drop (0 + j * 64 + i * 1 + [Value.bool true].length) = (tgL (S ++ [((i : Int), (j : Int))])).flatMap eBool := by
  have := fm_set eBool_len (tgL S) (j * 64 + i) true (by rw [tgL_len]; omega)
  rw [tgL_set hi hj] at this
  rw [← this, show 0 + (j * 64 + i) * 1 = 0 + j * 64 + i * 1 by omega]; rfl
theorem tg_len (S : List (Int × Int)) : ((tgL S).flatMap eBool).length = 4096 := by rw [fm_length eBool_len, tgL_len]
theorem setE_ok {n : Int} {xs : List Int} (h : setE n xs = 0) : ∀ x ∈ xs, wi x 0 (n - 1) := by
  unfold setE at h
  split at h
  · assumption
  · cases h
theorem togS_step {ps : List (List Int × List Int)} {k : Nat} {p : List Int × List Int} (h : ps[k]? = some p) : togS (ps.take (k + 1)) = togS (ps.take k) ++ prodS p := by
  unfold togS; rw [List.take_add_one, h, List.flatMap_append]; simp
theorem fmT36 {α β : Type} (f : α → List β) {xs : List α} {k : Nat} {x : α} (h : xs[k]? = some x) : (xs.take (k + 1)).flatMap f = (xs.take k).flatMap f ++ f x := by
  rw [List.take_add_one, h, List.flatMap_append]; simp
theorem memE_4 {m n : Int} {p : List Int × List Int} (h : setE m p.1 = 4 ∨ setE n p.2 = 4) : memE m n p = 4 := by unfold memE; rw [if_pos h]
theorem memE_5 {m n : Int} {p : List Int × List Int} (h : ¬ (setE m p.1 = 4 ∨ setE n p.2 = 4)) (h2 : setE m p.1 ≠ 0 ∨ setE n p.2 ≠ 0) : memE m n p = 5 := by unfold memE; rw [if_neg h, if_pos h2]
theorem memE_0 {m n : Int} {p : List Int × List Int} (h2 : setE m p.1 = 0) (h3 : setE n p.2 = 0) : memE m n p = 0 := by unfold memE; rw [h2, h3]; rfl
theorem memory_c (mi ni : Int) (la : Option Addr) (lc : Nat) (ls : List PR) (w : World) (hL : RoPR w la ls) (hlen : ∀ l ∈ ls, l.1.2.length ≤ 1000000 ∧ l.2.2.length ≤ 1000000) : Calls Try.prog 28 [.int .i64 mi, .int .i64 ni, .slice la ls.length lc].toArray w (RetR (memP mi ni (ls.map prP)) w) := by
  refine fstart Try.func28 rfl rfl (Sat.nil w) ?_
  refine Cd.seq ?_
  refine Cd.region ?_
  refine Ops.alc [.slice none 0 0, .int .i64 0, .slice none 0 0] zc_32 ?_
  intro b1
  refine Ops.q (q_asg rfl) ?_
  refine Ops.to rfl ?_
  refine Cd.seq ?_
  refine Cd.block ?_
  refine Cd.seq ?_
  refine Cd.region ?_
  refine Ops.q (q_mv rfl) ?_
  by_cases h2 : wi mi 1 64
  · refine Ops.cp en_57 rfl (fun w hs => dT (in_c _ _ _ w) h2) ?_
    refine Ops.q (q_not rfl) ?_
    refine Ops.q (q_mv rfl) ?_
    refine Ops.q (q_mv rfl) ?_
    by_cases h3 : wi ni 1 64
    · refine Ops.cp en_57 rfl (fun w hs => dT (in_c _ _ _ w) h3) ?_
      refine Ops.q (q_not rfl) ?_
      refine Ops.q (q_pickF rfl rfl) ?_
      refine Ops.q (q_asg rfl) ?_
      refine Ops.to rfl ?_
      refine Cd.cond_f rfl ?_
      refine Cd.seq ?_
      refine Cd.region ?_
      have hwm : wi mi 1 64 := h2
      have hwn : wi ni 1 64 := h3
      obtain ⟨m, rfl⟩ : ∃ j : Nat, mi = (j : Int) := ⟨mi.toNat, by unfold wi at hwm; omega⟩
      obtain ⟨n, rfl⟩ : ∃ j : Nat, ni = (j : Int) := ⟨ni.toNat, by unfold wi at hwn; omega⟩
      have hm : 1 ≤ m ∧ m ≤ 64 := by unfold wi at hwm; omega
      have hn : 1 ≤ n ∧ n ≤ 64 := by unfold wi at hwn; omega
      have hwmn : wi (m : Int) 1 64 ∧ wi (n : Int) 1 64 := ⟨hwm, hwn⟩
      refine Ops.q (q_mv rfl) ?_
      refine Ops.q (q_len esz_58 rfl) ?_
      by_cases h4 : 256 < (ls.length : Int)
      · refine Ops.q (q_cmp rfl rfl (c_gt h4)) ?_
        refine Ops.q (q_asg rfl) ?_
        refine Ops.to rfl ?_
        refine Cd.cond_t rfl ?_
        refine Cd.seq ?_
        refine Cd.region ?_
        refine Ops.q (q_bld [.slice none 0 0, .int .i64 0, .slice none 0 0] pls_32 zc_32 rfl rfl) ?_
        refine Ops.stB [.slice none 0 0, .int .i64 0, .slice none 0 0] [.slice none 0 0, .int .i64 0, .slice none 0 0] sz_32 rfl rfl rfl (one rfl) .here rfl rfl ?_
        refine Ops.q (q_asg rfl) ?_
        refine Ops.to rfl ?_
        refine Cd.rt (fn := Try.f28) [.agg [.slice none 0 0, .int .i64 0, .slice none 0 0].toArray, .int .i64 9] (by with_reducible repeat (first | exact rq_here | apply rq_then | apply rq_block)) rfl ⟨⟨_, _, rfl, fun _ hs => run_loadN isA_32 sz_32 (fun o u hu => Sat.atB .here (by rw [Nat.zero_add]; exact hu) hs)⟩, rfl, trivial⟩ ?_
        intro w' hs'
        rw [show memP (m : Int) (n : Int) (ls.map prP) = .error 9 by unfold memP; rw [if_pos hwmn, if_pos (by rw [List.length_map]; omega)]]
        exact ⟨rfl, hs'.none⟩
      · refine Ops.q (q_cmp rfl rfl (c_ngt (by omega))) ?_
        refine Ops.q (q_asg rfl) ?_
        refine Ops.to rfl ?_
        refine Cd.cond_f rfl ?_
        refine Cd.skipTo rfl ?_
        refine Cd.seq ?_
        refine Cd.region ?_
        refine Ops.alc ((tgL []).flatMap eBool) (by rw [tg0]; exact zc_135) ?_
        intro tbl
        refine Ops.to rfl ?_
        refine Cd.seq ?_
        refine Cd.seq ?_
        refine Cd.region ?_
        refine Ops.q (q_mv rfl) ?_
        refine Ops.q (q_len esz_58 rfl) ?_
        refine Ops.q (q_mv rfl) ?_
        refine Ops.to rfl ?_
        refine Cd.block ?_
        refine Cd.lp (σ := Nat) (fun k => k ≤ ls.length ∧ firstE (memE (m : Int) (n : Int)) ((ls.map prP).drop k) = firstE (memE (m : Int) (n : Int)) (ls.map prP)) (fun k => [(0, .int .i64 (m : Int)), (1, .int .i64 (n : Int)), (2, .slice la ls.length lc), (6, .pointer (some ⟨b1, 0, none⟩)), (8, .pointer (some ⟨tbl, 0, none⟩)), (36, .slice la ls.length lc), (37, .int .i64 (ls.length : Int)), (38, .int .i64 (k : Int))]) (fun k => [blk tbl 135 ((tgL (togS ((ls.map prP).take k))).flatMap eBool), blk b1 32 [.slice none 0 0, .int .i64 0, .slice none 0 0]]) (fun k => ls.length - k) 0 ⟨Nat.zero_le _, rfl⟩ ⟨rfl, rfl, rfl, rfl, rfl, rfl, rfl, rfl, trivial⟩ (fun _ hs => by have h1 := ((hs.pull (.there .here)).pull (.there .here)); exact h1) ?_
        intro k hI
        have hI1 := hI.1
        have hIk := hI
        refine Cd.seq ?_
        refine Cd.region ?_
        by_cases hk : (k : Int) < (ls.length : Int)
        · refine Ops.q (q_cmp rfl rfl (c_lt hk)) ?_
          obtain ⟨⟨⟨⟨ia, ic⟩, xi⟩, ⟨⟨oa, oc⟩, xo⟩⟩, hx⟩ : ∃ x, ls[k]? = some x := ⟨_, List.getElem?_eq_getElem (by omega)⟩
          have hxm := List.mem_iff_getElem?.2 ⟨k, hx⟩
          have hxe : RoL w ia eInt xi := (hL.2 _ hxm).1
          have hxo : RoL w oa eInt xo := (hL.2 _ hxm).2
          have hxl : xi.length ≤ 1000000 ∧ xo.length ≤ 1000000 := hlen _ hxm
          have hxq : (ls.map prP)[k]? = some (xi, xo) := by rw [List.getElem?_map, hx]; rfl
          obtain ⟨lb, lo, rfl⟩ := RoL.pos hL.1 ePr_len hx
          refine Ops.to rfl ?_
          refine Cd.seq ?_
          refine Cd.cond_t rfl ?_
          refine Cd.skipTo rfl ?_
          refine Cd.seq ?_
          refine Cd.block ?_
          refine Cd.seq ?_
          refine Cd.region ?_
          refine Ops.q (q_ix (k := k) esz_58 rfl rfl (by omega)) ?_
          refine Ops.q (q_ldRN [.slice ia xi.length ic, .slice oa xo.length oc] isA_61 sz_61 rfl (fun j u hu => hL.1.at ePr_len hx hu)) ?_
          refine Ops.alc [.slice none 0 0, .slice none 0 0] zc_61 ?_
          intro b5
          refine Ops.stB [.slice ia xi.length ic, .slice oa xo.length oc] [.slice ia xi.length ic, .slice oa xo.length oc] sz_61 rfl rfl rfl (one rfl) .here rfl rfl ?_
          refine Ops.to rfl ?_
          refine Cd.seq ?_
          refine Cd.draw rfl (by kernel_rfl) (.cons .here .nil) ?_
          intro F6 St7 hP8 hF9 hR10
          refine Dr.q (i := 0) hP8 rfl (by kernel_rfl) (q_fa fo_61_0 rfl) ?_
          refine Dr.q (i := 1) hP8 rfl (by kernel_rfl) (q_ldB isA_26 rfl .here rfl) ?_
          refine Dr.q (i := 2) hP8 rfl (by kernel_rfl) (q_mv rfl) ?_
          refine Dr.q (i := 5) hP8 rfl (by kernel_rfl) (q_fa fo_61_1 rfl) ?_
          refine Dr.q (i := 6) hP8 rfl (by kernel_rfl) (q_ldB isA_26 rfl .here rfl) ?_
          refine Dr.q (i := 7) hP8 rfl (by kernel_rfl) (q_mv rfl) ?_
          refine Dr.e (i := 3) rfl (by kernel_rfl) ?_
          refine Ops.cl (α := Nat) (v := fun b => .func (.func 92) #[] #[.pointer (some ⟨b, 0, none⟩)]) (B := fun b => [blk b 3 [.int .i64 (m : Int)]]) en_65 rfl (fun w hs => below_c (m : Int) w) ?_
          intro bl11
          refine Dr.back (fun _ hs => hF9 (.there .here) hs) ?_
          refine Dr.e (i := 4) rfl (by kernel_rfl) ?_
          refine Ops.cm (α := Unit) (v := fun _ => .int .i64 (setE (m : Int) xi)) (A' := fun _ => [blk bl11 3 [.int .i64 (m : Int)], F6, blk tbl 135 ((tgL (togS ((ls.map prP).take k))).flatMap eBool), blk b1 32 [.slice none 0 0, .int .i64 0, .slice none 0 0]]) en_64 rfl (fun w hs => (different_c bl11 _ _ xi _ _ w _ hxe hxl.1 (by omega) (((((hs.pull (.there (.there (.there .here)))).pull (.there (.there (.there .here)))).pull (.there (.there (.there .here)))).pull (.there (.there (.there .here)))))).mono fun e w' h => ⟨(), h.1, h.2⟩) ?_
          intro _
          refine Dr.back (fun _ hs => hF9 (.there .here) hs) ?_
          refine Dr.e (i := 8) rfl (by kernel_rfl) ?_
          refine Ops.cl (α := Nat) (v := fun b => .func (.func 92) #[] #[.pointer (some ⟨b, 0, none⟩)]) (B := fun b => [blk b 3 [.int .i64 (n : Int)]]) en_65 rfl (fun w hs => below_c (n : Int) w) ?_
          intro bl12
          refine Dr.back (fun _ hs => hF9 (.there (.there .here)) hs) ?_
          refine Dr.e (i := 9) rfl (by kernel_rfl) ?_
          refine Ops.cm (α := Unit) (v := fun _ => .int .i64 (setE (n : Int) xo)) (A' := fun _ => [blk bl12 3 [.int .i64 (n : Int)], blk bl11 3 [.int .i64 (m : Int)], F6, blk tbl 135 ((tgL (togS ((ls.map prP).take k))).flatMap eBool), blk b1 32 [.slice none 0 0, .int .i64 0, .slice none 0 0]]) en_64 rfl (fun w hs => (different_c bl12 _ _ xo _ _ w _ hxo hxl.2 (by omega) ((((((hs.pull (.there (.there (.there (.there .here))))).pull (.there (.there (.there (.there .here))))).pull (.there (.there (.there (.there .here))))).pull (.there (.there (.there (.there .here))))).pull (.there (.there (.there (.there .here))))))).mono fun e w' h => ⟨(), h.1, h.2⟩) ?_
          intro _
          refine Dr.back (fun _ hs => hF9 (.there (.there .here)) hs) ?_
          refine Dr.q (i := 10) hP8 rfl (by kernel_rfl) (q_asg rfl) ?_
          refine Dr.tail 11 (by kernel_rfl) ?_
          refine Ops.sat ?_ (fun _ hs => hR10 (.there (.there .here)) hs)
          refine Ops.q (q_asg rfl) ?_
          refine Ops.to rfl ?_
          refine Cd.seq ?_
          refine Cd.block ?_
          refine Cd.seq ?_
          refine Cd.region ?_
          refine Ops.q (q_mv rfl) ?_
          by_cases he4 : setE (m : Int) xi = 4
          · refine Ops.q (q_cmp rfl rfl (c_eq he4)) ?_
            refine Ops.q (q_mv rfl) ?_
            refine Ops.sk ?_
            refine Ops.sk ?_
            refine Ops.q (q_pickT rfl rfl) ?_
            refine Ops.q (q_asg rfl) ?_
            refine Ops.to rfl ?_
            refine Cd.cond_t rfl ?_
            refine Cd.seq ?_
            refine Cd.region ?_
            refine Ops.q (q_bld [.slice none 0 0, .int .i64 0, .slice none 0 0] pls_32 zc_32 rfl rfl) ?_
            refine Ops.stB [.slice none 0 0, .int .i64 0, .slice none 0 0] [.slice none 0 0, .int .i64 0, .slice none 0 0] sz_32 rfl rfl rfl (one rfl) (.there (.there (.there (.there .here)))) rfl rfl ?_
            refine Ops.q (q_asg rfl) ?_
            refine Ops.to rfl ?_
            refine Cd.rt (fn := Try.f28) [.agg [.slice none 0 0, .int .i64 0, .slice none 0 0].toArray, .int .i64 4] (by with_reducible repeat (first | exact rq_here | apply rq_then | apply rq_block)) rfl ⟨⟨_, _, rfl, fun _ hs => run_loadN isA_32 sz_32 (fun o u hu => Sat.atB (.there (.there (.there (.there .here)))) (by rw [Nat.zero_add]; exact hu) hs)⟩, rfl, trivial⟩ ?_
            intro w' hs'
            have h8 : memE (m : Int) (n : Int) (xi, xo) = 4 := memE_4 (by simp_all)
            have h9 : firstE (memE (m : Int) (n : Int)) (ls.map prP) = 4 := by rw [← hI.2, firstE_stop hxq (by rw [h8]; decide), h8]
            rw [show memP (m : Int) (n : Int) (ls.map prP) = .error (4) by unfold memP; rw [if_pos hwmn, if_neg (by rw [List.length_map]; omega), h9, if_pos (by decide)]]
            exact ⟨rfl, hs'.none⟩
          · refine Ops.q (q_cmp rfl rfl (c_neq he4)) ?_
            refine Ops.q (q_mv rfl) ?_
            refine Ops.q (q_mv rfl) ?_
            by_cases ho4 : setE (n : Int) xo = 4
            · refine Ops.q (q_cmp rfl rfl (c_eq ho4)) ?_
              refine Ops.q (q_pickF rfl rfl) ?_
              refine Ops.q (q_asg rfl) ?_
              refine Ops.to rfl ?_
              refine Cd.cond_t rfl ?_
              refine Cd.seq ?_
              refine Cd.region ?_
              refine Ops.q (q_bld [.slice none 0 0, .int .i64 0, .slice none 0 0] pls_32 zc_32 rfl rfl) ?_
              refine Ops.stB [.slice none 0 0, .int .i64 0, .slice none 0 0] [.slice none 0 0, .int .i64 0, .slice none 0 0] sz_32 rfl rfl rfl (one rfl) (.there (.there (.there (.there .here)))) rfl rfl ?_
              refine Ops.q (q_asg rfl) ?_
              refine Ops.to rfl ?_
              refine Cd.rt (fn := Try.f28) [.agg [.slice none 0 0, .int .i64 0, .slice none 0 0].toArray, .int .i64 4] (by with_reducible repeat (first | exact rq_here | apply rq_then | apply rq_block)) rfl ⟨⟨_, _, rfl, fun _ hs => run_loadN isA_32 sz_32 (fun o u hu => Sat.atB (.there (.there (.there (.there .here)))) (by rw [Nat.zero_add]; exact hu) hs)⟩, rfl, trivial⟩ ?_
              intro w' hs'
              have h8 : memE (m : Int) (n : Int) (xi, xo) = 4 := memE_4 (by simp_all)
              have h9 : firstE (memE (m : Int) (n : Int)) (ls.map prP) = 4 := by rw [← hI.2, firstE_stop hxq (by rw [h8]; decide), h8]
              rw [show memP (m : Int) (n : Int) (ls.map prP) = .error (4) by unfold memP; rw [if_pos hwmn, if_neg (by rw [List.length_map]; omega), h9, if_pos (by decide)]]
              exact ⟨rfl, hs'.none⟩
            · refine Ops.q (q_cmp rfl rfl (c_neq ho4)) ?_
              refine Ops.q (q_pickF rfl rfl) ?_
              refine Ops.q (q_asg rfl) ?_
              refine Ops.to rfl ?_
              refine Cd.cond_f rfl ?_
              refine Cd.seq ?_
              refine Cd.region ?_
              refine Ops.q (q_mv rfl) ?_
              by_cases hse0 : setE (m : Int) xi = 0
              · refine Ops.q (q_cmp rfl rfl (c_nne hse0)) ?_
                refine Ops.q (q_mv rfl) ?_
                refine Ops.q (q_mv rfl) ?_
                by_cases hso0 : setE (n : Int) xo = 0
                · refine Ops.q (q_cmp rfl rfl (c_nne hso0)) ?_
                  refine Ops.q (q_pickF rfl rfl) ?_
                  refine Ops.q (q_asg rfl) ?_
                  refine Ops.to rfl ?_
                  refine Cd.cond_f rfl ?_
                  refine Cd.skipTo rfl ?_
                  refine Cd.seq ?_
                  refine Cd.region ?_
                  refine Ops.q (q_fa fo_61_1 rfl) ?_
                  refine Ops.q (q_ldB isA_26 rfl .here rfl) ?_
                  refine Ops.q (q_len esz_26 rfl) ?_
                  refine Ops.q (q_mv rfl) ?_
                  refine Ops.to rfl ?_
                  refine Cd.block ?_
                  refine Cd.lp (σ := Nat) (fun a => a ≤ xo.length) (fun a => [(0, .int .i64 (m : Int)), (1, .int .i64 (n : Int)), (2, .slice (some ⟨lb, lo, none⟩) ls.length lc), (6, .pointer (some ⟨b1, 0, none⟩)), (8, .pointer (some ⟨tbl, 0, none⟩)), (36, .slice (some ⟨lb, lo, none⟩) ls.length lc), (37, .int .i64 (ls.length : Int)), (38, .int .i64 (k : Int)), (10, .pointer (some ⟨b5, 0, none⟩)), (69, .slice oa xo.length oc), (70, .int .i64 (xo.length : Int)), (71, .int .i64 (a : Int))]) (fun a => [blk tbl 135 ((tgL ((togS ((ls.map prP).take k)) ++ (xo.take a).flatMap (fun j : Int => xi.map fun i => (i, j)))).flatMap eBool), blk b5 61 [.slice ia xi.length ic, .slice oa xo.length oc], blk b1 32 [.slice none 0 0, .int .i64 0, .slice none 0 0]]) (fun a => xo.length - a) 0 (Nat.zero_le _) ⟨rfl, rfl, rfl, rfl, rfl, rfl, rfl, rfl, rfl, rfl, rfl, rfl, trivial⟩ (fun _ hs => by have h1 := (((((hs.pull (.there (.there (.there (.there .here))))).pull (.there .here)).pull (.there (.there (.there (.there .here))))).pull (.there (.there (.there .here)))).drop.pull (.there (.there (.there .here)))).drop; (try dsimp only); rw [show ((togS ((ls.map prP).take k)) ++ (xo.take 0).flatMap (fun j : Int => xi.map fun i => (i, j))) = (togS ((ls.map prP).take k)) from List.append_nil _]; exact h1) ?_
                  intro a hI
                  have hIa := hI
                  refine Cd.seq ?_
                  refine Cd.region ?_
                  by_cases ha : (a : Int) < (xo.length : Int)
                  · refine Ops.q (q_cmp rfl rfl (c_lt ha)) ?_
                    obtain ⟨yo, hy⟩ : ∃ x, xo[a]? = some x := ⟨_, List.getElem?_eq_getElem (by omega)⟩
                    obtain ⟨ob, oo, rfl⟩ := RoL.pos hxo eInt_len hy
                    have hyw := setE_ok hso0 yo (List.mem_iff_getElem?.2 ⟨a, hy⟩)
                    unfold wi at hyw
                    obtain ⟨yn, hyn⟩ : ∃ j : Nat, yo = (j : Int) := ⟨yo.toNat, by omega⟩
                    refine Ops.to rfl ?_
                    refine Cd.seq ?_
                    refine Cd.cond_t rfl ?_
                    refine Cd.skipTo rfl ?_
                    refine Cd.seq ?_
                    refine Cd.block ?_
                    refine Cd.seq ?_
                    refine Cd.region ?_
                    refine Ops.q (q_ix (k := a) esz_26 rfl rfl (by omega)) ?_
                    refine Ops.q (q_ldR isA_3 rfl (hxo.at0 eInt_len hy rfl)) ?_
                    refine Ops.q (q_asg rfl) ?_
                    refine Ops.to rfl ?_
                    refine Cd.seq ?_
                    refine Cd.region ?_
                    refine Ops.q (q_fa fo_61_0 rfl) ?_
                    refine Ops.q (q_ldB isA_26 rfl (.there .here) rfl) ?_
                    refine Ops.q (q_len esz_26 rfl) ?_
                    refine Ops.q (q_mv rfl) ?_
                    refine Ops.to rfl ?_
                    refine Cd.block ?_
                    refine Cd.lp (σ := Nat) (fun b => b ≤ xi.length) (fun b => [(0, .int .i64 (m : Int)), (1, .int .i64 (n : Int)), (2, .slice (some ⟨lb, lo, none⟩) ls.length lc), (6, .pointer (some ⟨b1, 0, none⟩)), (8, .pointer (some ⟨tbl, 0, none⟩)), (36, .slice (some ⟨lb, lo, none⟩) ls.length lc), (37, .int .i64 (ls.length : Int)), (38, .int .i64 (k : Int)), (10, .pointer (some ⟨b5, 0, none⟩)), (69, .slice (some ⟨ob, oo, none⟩) xo.length oc), (70, .int .i64 (xo.length : Int)), (71, .int .i64 (a : Int)), (14, .int .i64 yo), (76, .slice ia xi.length ic), (77, .int .i64 (xi.length : Int)), (78, .int .i64 (b : Int))]) (fun b => [blk tbl 135 ((tgL (((togS ((ls.map prP).take k)) ++ (xo.take a).flatMap (fun j : Int => xi.map fun i => (i, j))) ++ (xi.take b).map (fun i => (i, yo)))).flatMap eBool), blk b5 61 [.slice ia xi.length ic, .slice (some ⟨ob, oo, none⟩) xo.length oc], blk b1 32 [.slice none 0 0, .int .i64 0, .slice none 0 0]]) (fun b => xi.length - b) 0 (Nat.zero_le _) ⟨rfl, rfl, rfl, rfl, rfl, rfl, rfl, rfl, rfl, rfl, rfl, rfl, rfl, rfl, rfl, rfl, trivial⟩ (fun _ hs => by have h1 := (((hs.pull (.there (.there .here))).pull (.there (.there .here))).pull (.there (.there .here))); (try dsimp only); rw [show (((togS ((ls.map prP).take k)) ++ (xo.take a).flatMap (fun j : Int => xi.map fun i => (i, j))) ++ (xi.take 0).map (fun i => (i, yo))) = ((togS ((ls.map prP).take k)) ++ (xo.take a).flatMap (fun j : Int => xi.map fun i => (i, j))) from List.append_nil _]; exact h1) ?_
                    intro b hI
                    have hIb := hI
                    refine Cd.seq ?_
                    refine Cd.region ?_
                    by_cases hb : (b : Int) < (xi.length : Int)
                    · refine Ops.q (q_cmp rfl rfl (c_lt hb)) ?_
                      obtain ⟨zi, hz⟩ : ∃ x, xi[b]? = some x := ⟨_, List.getElem?_eq_getElem (by omega)⟩
                      obtain ⟨ib, io, rfl⟩ := RoL.pos hxe eInt_len hz
                      have hzw := setE_ok hse0 zi (List.mem_iff_getElem?.2 ⟨b, hz⟩)
                      unfold wi at hzw
                      obtain ⟨zn, hzn⟩ : ∃ j : Nat, zi = (j : Int) := ⟨zi.toNat, by omega⟩
                      refine Ops.to rfl ?_
                      refine Cd.seq ?_
                      refine Cd.cond_t rfl ?_
                      refine Cd.skipTo rfl ?_
                      refine Cd.seq ?_
                      refine Cd.block ?_
                      refine Cd.seq ?_
                      refine Cd.region ?_
                      refine Ops.q (q_ix (k := b) esz_26 rfl rfl (by omega)) ?_
                      refine Ops.q (q_ldR isA_3 rfl (hxe.at0 eInt_len hz rfl)) ?_
                      refine Ops.q (q_asg rfl) ?_
                      refine Ops.to rfl ?_
                      refine Cd.region ?_
                      refine Ops.q (q_mv rfl) ?_
                      refine Ops.q (q_mv rfl) ?_
                      refine Ops.q (q_ixA (k := yn) asz_135 rfl (show some (Value.int .i64 yo) = some (.int .i64 (yn : Int)) from by rw [hyn]) (by omega)) ?_
                      refine Ops.q (q_ixA (k := zn) asz_134 rfl (show some (Value.int .i64 zi) = some (.int .i64 (zn : Int)) from by rw [hzn]) (by omega)) ?_
                      refine Ops.stB [.bool true] ((tgL ((((togS ((ls.map prP).take k)) ++ (xo.take a).flatMap (fun j : Int => xi.map fun i => (i, j))) ++ (xi.take b).map (fun i => (i, yo))) ++ [((zn : Int), (yn : Int))])).flatMap eBool) sz_4 rfl rfl rfl (one rfl) .here (ble_ok (by rw [tg_len]; simp only [List.length_cons, List.length_nil]; omega)) (tg_set (by omega) (by omega)) ?_
                      refine Ops.to rfl ?_
                      refine Cd.region ?_
                      refine Ops.q (q_ar rfl rfl (a_inc (by omega))) ?_
                      refine Ops.q (q_mv rfl) ?_
                      refine Ops.rnd (b + 1) rfl (by omega) (by omega) ⟨rfl, rfl, rfl, rfl, rfl, rfl, rfl, rfl, rfl, rfl, rfl, rfl, rfl, rfl, rfl, rfl, trivial⟩ (fun _ hs => by have h1 := (((hs.pull (.there (.there .here))).pull (.there (.there .here))).pull (.there (.there .here))); rw [← hzn, ← hyn] at h1; (try dsimp only); rw [mapT _ hz, ← List.append_assoc]; exact h1) 
                    · refine Ops.q (q_cmp rfl rfl (c_nlt (by omega))) ?_
                      refine Ops.to rfl ?_
                      refine Cd.seq ?_
                      refine Cd.cond_f rfl ?_
                      refine Cd.exitTo rfl ?_
                      refine Cd.region ?_
                      refine Ops.q (q_ar rfl rfl (a_inc (by omega))) ?_
                      refine Ops.q (q_mv rfl) ?_
                      refine Ops.rnd (a + 1) rfl (by omega) (by omega) ⟨rfl, rfl, rfl, rfl, rfl, rfl, rfl, rfl, rfl, rfl, rfl, rfl, trivial⟩ (fun _ hs => by have h1 := (((hs.pull (.there (.there .here))).pull (.there (.there .here))).pull (.there (.there .here))); rw [List.take_of_length_le (show xi.length ≤ b by omega)] at h1; (try dsimp only); rw [fmT36 _ hy, ← List.append_assoc]; exact h1) 
                  · refine Ops.q (q_cmp rfl rfl (c_nlt (by omega))) ?_
                    refine Ops.to rfl ?_
                    refine Cd.seq ?_
                    refine Cd.cond_f rfl ?_
                    refine Cd.exitTo rfl ?_
                    refine Cd.region ?_
                    refine Ops.q (q_ar rfl rfl (a_inc (by omega))) ?_
                    refine Ops.q (q_mv rfl) ?_
                    refine Ops.rnd (k + 1) rfl (⟨by omega, by rw [← hIk.2]; exact (firstE_step hxq (memE_0 hse0 hso0)).symm⟩) (by omega) ⟨rfl, rfl, rfl, rfl, rfl, rfl, rfl, rfl, trivial⟩ (fun _ hs => by have h1 := (((hs.pull (.there (.there .here))).pull (.there .here)).pull (.there (.there .here))).drop; rw [List.take_of_length_le (show xo.length ≤ a by omega)] at h1; (try dsimp only); rw [togS_step hxq]; exact h1) 
                · refine Ops.q (q_cmp rfl rfl (c_ne hso0)) ?_
                  refine Ops.q (q_pickF rfl rfl) ?_
                  refine Ops.q (q_asg rfl) ?_
                  refine Ops.to rfl ?_
                  refine Cd.cond_t rfl ?_
                  refine Cd.seq ?_
                  refine Cd.region ?_
                  refine Ops.q (q_bld [.slice none 0 0, .int .i64 0, .slice none 0 0] pls_32 zc_32 rfl rfl) ?_
                  refine Ops.stB [.slice none 0 0, .int .i64 0, .slice none 0 0] [.slice none 0 0, .int .i64 0, .slice none 0 0] sz_32 rfl rfl rfl (one rfl) (.there (.there (.there (.there .here)))) rfl rfl ?_
                  refine Ops.q (q_asg rfl) ?_
                  refine Ops.to rfl ?_
                  refine Cd.rt (fn := Try.f28) [.agg [.slice none 0 0, .int .i64 0, .slice none 0 0].toArray, .int .i64 5] (by with_reducible repeat (first | exact rq_here | apply rq_then | apply rq_block)) rfl ⟨⟨_, _, rfl, fun _ hs => run_loadN isA_32 sz_32 (fun o u hu => Sat.atB (.there (.there (.there (.there .here)))) (by rw [Nat.zero_add]; exact hu) hs)⟩, rfl, trivial⟩ ?_
                  intro w' hs'
                  have h8 : memE (m : Int) (n : Int) (xi, xo) = 5 := memE_5 (by simp_all) (by simp_all)
                  have h9 : firstE (memE (m : Int) (n : Int)) (ls.map prP) = 5 := by rw [← hI.2, firstE_stop hxq (by rw [h8]; decide), h8]
                  rw [show memP (m : Int) (n : Int) (ls.map prP) = .error (5) by unfold memP; rw [if_pos hwmn, if_neg (by rw [List.length_map]; omega), h9, if_pos (by decide)]]
                  exact ⟨rfl, hs'.none⟩
              · refine Ops.q (q_cmp rfl rfl (c_ne hse0)) ?_
                refine Ops.q (q_mv rfl) ?_
                refine Ops.sk ?_
                refine Ops.sk ?_
                refine Ops.q (q_pickT rfl rfl) ?_
                refine Ops.q (q_asg rfl) ?_
                refine Ops.to rfl ?_
                refine Cd.cond_t rfl ?_
                refine Cd.seq ?_
                refine Cd.region ?_
                refine Ops.q (q_bld [.slice none 0 0, .int .i64 0, .slice none 0 0] pls_32 zc_32 rfl rfl) ?_
                refine Ops.stB [.slice none 0 0, .int .i64 0, .slice none 0 0] [.slice none 0 0, .int .i64 0, .slice none 0 0] sz_32 rfl rfl rfl (one rfl) (.there (.there (.there (.there .here)))) rfl rfl ?_
                refine Ops.q (q_asg rfl) ?_
                refine Ops.to rfl ?_
                refine Cd.rt (fn := Try.f28) [.agg [.slice none 0 0, .int .i64 0, .slice none 0 0].toArray, .int .i64 5] (by with_reducible repeat (first | exact rq_here | apply rq_then | apply rq_block)) rfl ⟨⟨_, _, rfl, fun _ hs => run_loadN isA_32 sz_32 (fun o u hu => Sat.atB (.there (.there (.there (.there .here)))) (by rw [Nat.zero_add]; exact hu) hs)⟩, rfl, trivial⟩ ?_
                intro w' hs'
                have h8 : memE (m : Int) (n : Int) (xi, xo) = 5 := memE_5 (by simp_all) (by simp_all)
                have h9 : firstE (memE (m : Int) (n : Int)) (ls.map prP) = 5 := by rw [← hI.2, firstE_stop hxq (by rw [h8]; decide), h8]
                rw [show memP (m : Int) (n : Int) (ls.map prP) = .error (5) by unfold memP; rw [if_pos hwmn, if_neg (by rw [List.length_map]; omega), h9, if_pos (by decide)]]
                exact ⟨rfl, hs'.none⟩
        · refine Ops.q (q_cmp rfl rfl (c_nlt (by omega))) ?_
          have h9 : firstE (memE (m : Int) (n : Int)) (ls.map prP) = 0 := by rw [← hI.2, firstE_end (by rw [List.length_map]; omega)]
          refine Ops.to rfl ?_
          refine Cd.seq ?_
          refine Cd.cond_f rfl ?_
          refine Cd.exitTo rfl ?_
          refine Cd.seq ?_
          refine Cd.region ?_
          refine Ops.q (q_mv rfl) ?_
          refine Ops.q (q_ar (v := ((m + 1 : Nat) : Int)) rfl rfl (a_inc (by omega))) ?_
          refine Ops.q (q_bld [.slice none 0 0, .int .i64 ((m + 1 : Nat) : Int), .slice none 0 0] pls_32 zc_32 rfl rfl) ?_
          refine Ops.q (q_bld [.slice none 0 0, .int .i64 ((m + 1 : Nat) : Int), .slice none 0 0] pls_114 zc_114 rfl rfl) ?_
          refine Ops.alc [.slice none 0 0, .int .i64 0, .slice none 0 0] zc_114 ?_
          intro b13
          refine Ops.stB [.slice none 0 0, .int .i64 ((m + 1 : Nat) : Int), .slice none 0 0] [.slice none 0 0, .int .i64 ((m + 1 : Nat) : Int), .slice none 0 0] sz_114 rfl rfl rfl (one rfl) .here rfl rfl ?_
          refine Ops.to rfl ?_
          refine Cd.seq ?_
          refine Cd.nilRow 126 4 ?_
          refine Cd.nilRow 116 8 ?_
          change Cd _ _ _ _ _ _ _ _ ([row none 0 116 8 (([] : List Prm).length) (([] : List Prm).flatMap ePrm), row none 0 126 4 (([] : List Syn).length) (([] : List Syn).flatMap eSyn), blk b13 114 [.slice none (([] : List Prm).length) 0, .int .i64 ((m + 1 : Nat) : Int), .slice none (([] : List Syn).length) 0], blk tbl 135 ((tgL (togS ((ls.map prP).take k))).flatMap eBool), blk b1 32 [.slice none 0 0, .int .i64 0, .slice none 0 0]])
          refine Cd.region ?_
          refine Ops.cp en_48 rfl (fun w hs => gate_c w) ?_
          refine Ops.cl (α := Nat × Nat) (v := fun x => .func (.func 86) #[] #[.pointer (some ⟨x.1, 0, none⟩), .pointer (some ⟨x.2, 0, none⟩)]) (B := fun x => [blk x.1 116 (ePrm (gateP 0)), blk x.2 161 [.pointer (some ⟨b13, 0, none⟩)]]) en_49 rfl (fun w hs => grow_c b13 (gateP 0) w) ?_
          rintro ⟨pb14, bb15⟩
          refine Ops.lit [.int .i64 1] el_26 zsb_3 rfl rfl ⟨by decide, by decide⟩ rfl ?_
          intro b16
          refine Ops.q (q_mv rfl) ?_
          refine Ops.cm (α := Option Addr × Nat) (v := fun p => .slice p.1 (List.replicate n (1 : Int)).length p.2) (A' := fun p => row p.1 p.2 3 1 (List.replicate n (1 : Int)).length ((List.replicate n (1 : Int)).flatMap eInt) :: [row (some ⟨b16, 0, none⟩) 1 3 1 1 [.int .i64 1], blk pb14 116 (ePrm (gateP 0)), blk bb15 161 [.pointer (some ⟨b13, 0, none⟩)], row none 0 116 8 (([] : List Prm).length) (([] : List Prm).flatMap ePrm), row none 0 126 4 (([] : List Syn).length) (([] : List Syn).flatMap eSyn), blk b13 114 [.slice none (([] : List Prm).length) 0, .int .i64 ((m + 1 : Nat) : Int), .slice none (([] : List Syn).length) 0], blk tbl 135 ((tgL (togS ((ls.map prP).take k))).flatMap eBool), blk b1 32 [.slice none 0 0, .int .i64 0, .slice none 0 0]]) en_52 rfl (fun w hs => repeat_l b16 1 n _ w _ (by omega) (((((((((hs.pull (.there (.there (.there (.there (.there (.there (.there .here)))))))).pull (.there (.there (.there (.there (.there (.there (.there .here)))))))).pull (.there (.there (.there (.there (.there (.there (.there .here)))))))).pull (.there (.there (.there (.there (.there (.there (.there .here)))))))).pull (.there (.there (.there (.there (.there (.there (.there .here)))))))).pull (.there (.there (.there (.there (.there (.there (.there .here)))))))).pull (.there (.there (.there (.there (.there (.there (.there .here)))))))).pull (.there (.there (.there (.there (.there (.there (.there .here)))))))))) ?_
          rintro ⟨a17, c18⟩
          refine Ops.cv (α := Option Addr × Nat) (k := 86) (first := []) (caps := [.pointer (some ⟨pb14, 0, none⟩), .pointer (some ⟨bb15, 0, none⟩)]) (vs := [.slice a17 ((List.replicate n (1 : Int)).length) c18]) (v := fun _ => .tuple #[]) (A' := fun p => [blk b13 114 [.slice p.1 ((([] : List Prm) ++ (List.replicate n (1 : Int)).map (setTh (gateP 0))).length) p.2, .int .i64 ((m + 1 : Nat) : Int), .slice none (([] : List Syn).length) 0], row p.1 p.2 116 8 ((([] : List Prm) ++ (List.replicate n (1 : Int)).map (setTh (gateP 0))).length) ((([] : List Prm) ++ (List.replicate n (1 : Int)).map (setTh (gateP 0))).flatMap ePrm), row none 0 126 4 (([] : List Syn).length) (([] : List Syn).flatMap eSyn), blk pb14 116 (ePrm (gateP 0)), blk bb15 161 [.pointer (some ⟨b13, 0, none⟩)], row a17 c18 3 1 ((List.replicate n (1 : Int)).length) ((List.replicate n (1 : Int)).flatMap eInt), row (some ⟨b16, 0, none⟩) 1 3 1 1 [.int .i64 1], blk tbl 135 ((tgL (togS ((ls.map prP).take k))).flatMap eBool), blk b1 32 [.slice none 0 0, .int .i64 0, .slice none 0 0]]) en_86 rfl rfl (fun w hs => grown_c b13 _ _ _ _ ([] : List Prm) _ ([] : List Syn) pb14 bb15 _ _ (List.replicate n (1 : Int)) _ _ w _ (by simp only [List.length_append, List.length_map, List.length_take, List.length_cons, List.length_nil, List.length_replicate]; omega) ((((((((((hs.pull (.there (.there (.there (.there (.there (.there (.there (.there .here))))))))).pull (.there (.there (.there (.there (.there (.there (.there (.there .here))))))))).pull (.there (.there (.there .here)))).pull (.there (.there (.there .here)))).pull (.there (.there (.there (.there (.there .here)))))).pull (.there (.there (.there (.there (.there .here)))))).pull (.there (.there (.there (.there (.there (.there (.there .here)))))))).pull (.there (.there (.there (.there (.there (.there (.there .here)))))))).pull (.there (.there (.there (.there (.there (.there (.there (.there .here))))))))))) ?_
          rintro ⟨a19, c20⟩
          refine Ops.to rfl ?_
          refine Cd.seq ?_
          refine Cd.seq ?_
          refine Cd.region ?_
          refine Ops.q (q_mv rfl) ?_
          refine Ops.q (q_mv rfl) ?_
          refine Ops.to rfl ?_
          refine Cd.block ?_
          refine Cd.lp (σ := Nat × Option Addr × Nat) (fun s => s.1 ≤ n) (fun s => [(0, .int .i64 (m : Int)), (1, .int .i64 (n : Int)), (6, .pointer (some ⟨b1, 0, none⟩)), (8, .pointer (some ⟨tbl, 0, none⟩)), (17, .pointer (some ⟨b13, 0, none⟩)), (99, .int .i64 (n : Int)), (100, .int .i64 (s.1 : Int))]) (fun s => [blk b13 114 [.slice a19 ((([] : List Prm) ++ (List.replicate n (1 : Int)).map (setTh (gateP 0))).length) c20, .int .i64 ((m + 1 : Nat) : Int), .slice s.2.1 ((([] : List Syn) ++ memTo m (togS ((ls.map prP).take k)) s.1).length) s.2.2], row a19 c20 116 8 ((([] : List Prm) ++ (List.replicate n (1 : Int)).map (setTh (gateP 0))).length) ((([] : List Prm) ++ (List.replicate n (1 : Int)).map (setTh (gateP 0))).flatMap ePrm), row s.2.1 s.2.2 126 4 ((([] : List Syn) ++ memTo m (togS ((ls.map prP).take k)) s.1).length) ((([] : List Syn) ++ memTo m (togS ((ls.map prP).take k)) s.1).flatMap eSyn), blk tbl 135 ((tgL (togS ((ls.map prP).take k))).flatMap eBool), blk b1 32 [.slice none 0 0, .int .i64 0, .slice none 0 0]]) (fun s => n - s.1) (0, none, 0) (Nat.zero_le _) ⟨rfl, rfl, rfl, rfl, rfl, rfl, rfl, trivial⟩ (fun _ hs => by have h1 := (((((((((hs.pull (.there (.there (.there (.there (.there (.there (.there (.there .here))))))))).pull (.there (.there (.there (.there (.there (.there (.there (.there .here))))))))).pull (.there (.there (.there (.there .here))))).pull (.there (.there (.there (.there .here))))).pull (.there (.there (.there (.there .here))))).pull (.there (.there (.there (.there (.there .here)))))).drop.pull (.there (.there (.there (.there (.there .here)))))).drop.pull (.there (.there (.there (.there (.there .here)))))).drop.pull (.there (.there (.there (.there (.there .here)))))).drop; dsimp only; rw [show (([] : List Syn) ++ memTo m (togS ((ls.map prP).take k)) 0) = ([] : List Syn) from List.append_nil _]; exact h1) ?_
          rintro ⟨j, qa, qc⟩ hI
          dsimp only at hI
          change Cd _ _ _ _ _ _ _ [(0, .int .i64 (m : Int)), (1, .int .i64 (n : Int)), (6, .pointer (some ⟨b1, 0, none⟩)), (8, .pointer (some ⟨tbl, 0, none⟩)), (17, .pointer (some ⟨b13, 0, none⟩)), (99, .int .i64 (n : Int)), (100, .int .i64 (j : Int))] ([blk b13 114 [.slice a19 ((([] : List Prm) ++ (List.replicate n (1 : Int)).map (setTh (gateP 0))).length) c20, .int .i64 ((m + 1 : Nat) : Int), .slice qa ((([] : List Syn) ++ memTo m (togS ((ls.map prP).take k)) j).length) qc], row a19 c20 116 8 ((([] : List Prm) ++ (List.replicate n (1 : Int)).map (setTh (gateP 0))).length) ((([] : List Prm) ++ (List.replicate n (1 : Int)).map (setTh (gateP 0))).flatMap ePrm), row qa qc 126 4 ((([] : List Syn) ++ memTo m (togS ((ls.map prP).take k)) j).length) ((([] : List Syn) ++ memTo m (togS ((ls.map prP).take k)) j).flatMap eSyn), blk tbl 135 ((tgL (togS ((ls.map prP).take k))).flatMap eBool), blk b1 32 [.slice none 0 0, .int .i64 0, .slice none 0 0]])
          refine Cd.seq ?_
          refine Cd.region ?_
          by_cases hj0 : (j : Int) < (n : Int)
          · refine Ops.q (q_cmp rfl rfl (c_lt hj0)) ?_
            have hml := memTo_len m (togS ((ls.map prP).take k)) j
            have hjm : j * (m + 1) ≤ 64 * 65 := Nat.mul_le_mul (by omega) (by omega)
            refine Ops.to rfl ?_
            refine Cd.seq ?_
            refine Cd.cond_t rfl ?_
            refine Cd.skipTo rfl ?_
            refine Cd.seq ?_
            refine Cd.block ?_
            refine Cd.seq ?_
            refine Cd.region ?_
            refine Ops.q (q_mv rfl) ?_
            refine Ops.q (q_asg rfl) ?_
            refine Ops.to rfl ?_
            refine Cd.seq ?_
            refine Cd.region ?_
            refine Ops.q (q_mv rfl) ?_
            refine Ops.q (q_mv rfl) ?_
            refine Ops.cm (α := Option Addr × Nat) (v := fun _ => .tuple #[]) (A' := fun p => [blk b13 114 [.slice a19 ((([] : List Prm) ++ (List.replicate n (1 : Int)).map (setTh (gateP 0))).length) c20, .int .i64 ((m + 1 : Nat) : Int), .slice p.1 (((([] : List Syn) ++ memTo m (togS ((ls.map prP).take k)) j) ++ [(⟨-1 - (m : Int), (j : Int), 1, 1⟩ : Syn)]).length) p.2], row a19 c20 116 8 ((([] : List Prm) ++ (List.replicate n (1 : Int)).map (setTh (gateP 0))).length) ((([] : List Prm) ++ (List.replicate n (1 : Int)).map (setTh (gateP 0))).flatMap ePrm), row p.1 p.2 126 4 (((([] : List Syn) ++ memTo m (togS ((ls.map prP).take k)) j) ++ [(⟨-1 - (m : Int), (j : Int), 1, 1⟩ : Syn)]).length) (((([] : List Syn) ++ memTo m (togS ((ls.map prP).take k)) j) ++ [(⟨-1 - (m : Int), (j : Int), 1, 1⟩ : Syn)]).flatMap eSyn), blk tbl 135 ((tgL (togS ((ls.map prP).take k))).flatMap eBool), blk b1 32 [.slice none 0 0, .int .i64 0, .slice none 0 0]]) en_51 rfl (fun w hs => feed_c _ _ _ _ _ (([] : List Prm) ++ (List.replicate n (1 : Int)).map (setTh (gateP 0))) _ (([] : List Syn) ++ memTo m (togS ((ls.map prP).take k)) j) (m : Int) (j : Int) 1 1 _ w _ (by simp only [List.length_append, List.length_cons, List.length_nil]; omega) (by omega) ((((((hs.pull (.there (.there (.there (.there .here))))).pull (.there (.there (.there (.there .here))))).pull (.there (.there (.there (.there .here))))).pull (.there (.there (.there (.there .here))))).pull (.there (.there (.there (.there .here))))))) ?_
            rintro ⟨a21, c22⟩
            refine Ops.to rfl ?_
            refine Cd.seq ?_
            refine Cd.region ?_
            refine Ops.q (q_mv rfl) ?_
            refine Ops.q (q_ixA (k := j) asz_135 rfl rfl (by omega)) ?_
            refine Ops.q (q_mv rfl) ?_
            refine Ops.q (q_cutA (k := m) asz_134 rfl rfl (by omega)) ?_
            refine Ops.q (q_len esz_23 rfl) ?_
            refine Ops.q (q_mv rfl) ?_
            refine Ops.to rfl ?_
            refine Cd.block ?_
            refine Cd.lp (σ := Nat × Option Addr × Nat) (fun s => s.1 ≤ m) (fun s => [(0, .int .i64 (m : Int)), (1, .int .i64 (n : Int)), (6, .pointer (some ⟨b1, 0, none⟩)), (8, .pointer (some ⟨tbl, 0, none⟩)), (17, .pointer (some ⟨b13, 0, none⟩)), (99, .int .i64 (n : Int)), (100, .int .i64 (j : Int)), (18, .int .i64 (j : Int)), (109, .slice (some ⟨tbl, 0 + j * 64, none⟩) m 64), (110, .int .i64 (m : Int)), (111, .int .i64 (s.1 : Int))]) (fun s => [blk b13 114 [.slice a19 ((([] : List Prm) ++ (List.replicate n (1 : Int)).map (setTh (gateP 0))).length) c20, .int .i64 ((m + 1 : Nat) : Int), .slice s.2.1 ((((([] : List Syn) ++ memTo m (togS ((ls.map prP).take k)) j) ++ [(⟨-1 - (m : Int), (j : Int), 1, 1⟩ : Syn)]) ++ memRow m (togS ((ls.map prP).take k)) j s.1).length) s.2.2], row a19 c20 116 8 ((([] : List Prm) ++ (List.replicate n (1 : Int)).map (setTh (gateP 0))).length) ((([] : List Prm) ++ (List.replicate n (1 : Int)).map (setTh (gateP 0))).flatMap ePrm), row s.2.1 s.2.2 126 4 ((((([] : List Syn) ++ memTo m (togS ((ls.map prP).take k)) j) ++ [(⟨-1 - (m : Int), (j : Int), 1, 1⟩ : Syn)]) ++ memRow m (togS ((ls.map prP).take k)) j s.1).length) ((((([] : List Syn) ++ memTo m (togS ((ls.map prP).take k)) j) ++ [(⟨-1 - (m : Int), (j : Int), 1, 1⟩ : Syn)]) ++ memRow m (togS ((ls.map prP).take k)) j s.1).flatMap eSyn), blk tbl 135 ((tgL (togS ((ls.map prP).take k))).flatMap eBool), blk b1 32 [.slice none 0 0, .int .i64 0, .slice none 0 0]]) (fun s => m - s.1) (0, a21, c22) (Nat.zero_le _) ⟨rfl, rfl, rfl, rfl, rfl, rfl, rfl, rfl, rfl, rfl, rfl, trivial⟩ (fun _ hs => by have h1 := (((((hs.pull (.there (.there (.there (.there .here))))).pull (.there (.there (.there (.there .here))))).pull (.there (.there (.there (.there .here))))).pull (.there (.there (.there (.there .here))))).pull (.there (.there (.there (.there .here))))); dsimp only; rw [show (((([] : List Syn) ++ memTo m (togS ((ls.map prP).take k)) j) ++ [(⟨-1 - (m : Int), (j : Int), 1, 1⟩ : Syn)]) ++ memRow m (togS ((ls.map prP).take k)) j 0) = ((([] : List Syn) ++ memTo m (togS ((ls.map prP).take k)) j) ++ [(⟨-1 - (m : Int), (j : Int), 1, 1⟩ : Syn)]) from List.append_nil _]; exact h1) ?_
            rintro ⟨i, ra, rc⟩ hI
            dsimp only at hI
            change Cd _ _ _ _ _ _ _ [(0, .int .i64 (m : Int)), (1, .int .i64 (n : Int)), (6, .pointer (some ⟨b1, 0, none⟩)), (8, .pointer (some ⟨tbl, 0, none⟩)), (17, .pointer (some ⟨b13, 0, none⟩)), (99, .int .i64 (n : Int)), (100, .int .i64 (j : Int)), (18, .int .i64 (j : Int)), (109, .slice (some ⟨tbl, 0 + j * 64, none⟩) m 64), (110, .int .i64 (m : Int)), (111, .int .i64 (i : Int))] ([blk b13 114 [.slice a19 ((([] : List Prm) ++ (List.replicate n (1 : Int)).map (setTh (gateP 0))).length) c20, .int .i64 ((m + 1 : Nat) : Int), .slice ra ((((([] : List Syn) ++ memTo m (togS ((ls.map prP).take k)) j) ++ [(⟨-1 - (m : Int), (j : Int), 1, 1⟩ : Syn)]) ++ memRow m (togS ((ls.map prP).take k)) j i).length) rc], row a19 c20 116 8 ((([] : List Prm) ++ (List.replicate n (1 : Int)).map (setTh (gateP 0))).length) ((([] : List Prm) ++ (List.replicate n (1 : Int)).map (setTh (gateP 0))).flatMap ePrm), row ra rc 126 4 ((((([] : List Syn) ++ memTo m (togS ((ls.map prP).take k)) j) ++ [(⟨-1 - (m : Int), (j : Int), 1, 1⟩ : Syn)]) ++ memRow m (togS ((ls.map prP).take k)) j i).length) ((((([] : List Syn) ++ memTo m (togS ((ls.map prP).take k)) j) ++ [(⟨-1 - (m : Int), (j : Int), 1, 1⟩ : Syn)]) ++ memRow m (togS ((ls.map prP).take k)) j i).flatMap eSyn), blk tbl 135 ((tgL (togS ((ls.map prP).take k))).flatMap eBool), blk b1 32 [.slice none 0 0, .int .i64 0, .slice none 0 0]])
            refine Cd.seq ?_
            refine Cd.region ?_
            by_cases hi0 : (i : Int) < (m : Int)
            · refine Ops.q (q_cmp rfl rfl (c_lt hi0)) ?_
              have hrl := memRow_len m (togS ((ls.map prP).take k)) j i
              refine Ops.to rfl ?_
              refine Cd.seq ?_
              refine Cd.cond_t rfl ?_
              refine Cd.skipTo rfl ?_
              refine Cd.seq ?_
              refine Cd.block ?_
              refine Cd.seq ?_
              refine Cd.region ?_
              refine Ops.q (q_mv rfl) ?_
              refine Ops.q (q_ix (k := i) esz_23 rfl rfl (by omega)) ?_
              by_cases hin : ((i : Int), (j : Int)) ∈ (togS ((ls.map prP).take k))
              · refine Ops.q (q_ldB (v := .bool true) isA_4 rfl (.there (.there (.there .here))) (by rw [tg_get (by omega) (by omega)]; simp [hin])) ?_
                refine Ops.q (q_asg rfl) ?_
                refine Ops.q (q_asg rfl) ?_
                refine Ops.to rfl ?_
                refine Cd.seq ?_
                refine Cd.region ?_
                refine Ops.q (q_mv rfl) ?_
                refine Ops.q (q_not rfl) ?_
                refine Ops.to rfl ?_
                refine Cd.cond_f rfl ?_
                refine Cd.skipTo rfl ?_
                refine Cd.region ?_
                refine Ops.q (q_ar rfl rfl (a_inc (by omega))) ?_
                refine Ops.q (q_mv rfl) ?_
                refine Ops.rnd ((i + 1, ra, rc)) rfl (by dsimp only; exact (by omega)) (by dsimp only; omega) ⟨rfl, rfl, rfl, rfl, rfl, rfl, rfl, rfl, rfl, rfl, rfl, trivial⟩ (fun _ hs => by have h1 := (((((hs.pull (.there (.there (.there (.there .here))))).pull (.there (.there (.there (.there .here))))).pull (.there (.there (.there (.there .here))))).pull (.there (.there (.there (.there .here))))).pull (.there (.there (.there (.there .here))))); dsimp only; rw [memRow_step, memCell, if_pos hin, List.append_nil]; exact h1) 
              · refine Ops.q (q_ldB (v := .bool false) isA_4 rfl (.there (.there (.there .here))) (by rw [tg_get (by omega) (by omega)]; simp [hin])) ?_
                refine Ops.q (q_asg rfl) ?_
                refine Ops.q (q_asg rfl) ?_
                refine Ops.to rfl ?_
                refine Cd.seq ?_
                refine Cd.region ?_
                refine Ops.q (q_mv rfl) ?_
                refine Ops.q (q_not rfl) ?_
                refine Ops.to rfl ?_
                refine Cd.cond_t rfl ?_
                refine Cd.region ?_
                refine Ops.q (q_mv rfl) ?_
                refine Ops.q (q_mv rfl) ?_
                refine Ops.cm (α := Option Addr × Nat) (v := fun _ => .tuple #[]) (A' := fun p => [blk b13 114 [.slice a19 ((([] : List Prm) ++ (List.replicate n (1 : Int)).map (setTh (gateP 0))).length) c20, .int .i64 ((m + 1 : Nat) : Int), .slice p.1 (((((([] : List Syn) ++ memTo m (togS ((ls.map prP).take k)) j) ++ [(⟨-1 - (m : Int), (j : Int), 1, 1⟩ : Syn)]) ++ memRow m (togS ((ls.map prP).take k)) j i) ++ [(⟨-1 - (i : Int), (j : Int), -1, 1⟩ : Syn)]).length) p.2], row a19 c20 116 8 ((([] : List Prm) ++ (List.replicate n (1 : Int)).map (setTh (gateP 0))).length) ((([] : List Prm) ++ (List.replicate n (1 : Int)).map (setTh (gateP 0))).flatMap ePrm), row p.1 p.2 126 4 (((((([] : List Syn) ++ memTo m (togS ((ls.map prP).take k)) j) ++ [(⟨-1 - (m : Int), (j : Int), 1, 1⟩ : Syn)]) ++ memRow m (togS ((ls.map prP).take k)) j i) ++ [(⟨-1 - (i : Int), (j : Int), -1, 1⟩ : Syn)]).length) (((((([] : List Syn) ++ memTo m (togS ((ls.map prP).take k)) j) ++ [(⟨-1 - (m : Int), (j : Int), 1, 1⟩ : Syn)]) ++ memRow m (togS ((ls.map prP).take k)) j i) ++ [(⟨-1 - (i : Int), (j : Int), -1, 1⟩ : Syn)]).flatMap eSyn), blk tbl 135 ((tgL (togS ((ls.map prP).take k))).flatMap eBool), blk b1 32 [.slice none 0 0, .int .i64 0, .slice none 0 0]]) en_51 rfl (fun w hs => feed_c _ _ _ _ _ (([] : List Prm) ++ (List.replicate n (1 : Int)).map (setTh (gateP 0))) _ (((([] : List Syn) ++ memTo m (togS ((ls.map prP).take k)) j) ++ [(⟨-1 - (m : Int), (j : Int), 1, 1⟩ : Syn)]) ++ memRow m (togS ((ls.map prP).take k)) j i) (i : Int) (j : Int) (-1) 1 _ w _ (by simp only [List.length_append, List.length_cons, List.length_nil]; omega) (by omega) ((((((hs.pull (.there (.there (.there (.there .here))))).pull (.there (.there (.there (.there .here))))).pull (.there (.there (.there (.there .here))))).pull (.there (.there (.there (.there .here))))).pull (.there (.there (.there (.there .here))))))) ?_
                rintro ⟨a23, c24⟩
                refine Ops.to rfl ?_
                refine Cd.region ?_
                refine Ops.q (q_ar rfl rfl (a_inc (by omega))) ?_
                refine Ops.q (q_mv rfl) ?_
                refine Ops.rnd ((i + 1, a23, c24)) rfl (by dsimp only; exact (by omega)) (by dsimp only; omega) ⟨rfl, rfl, rfl, rfl, rfl, rfl, rfl, rfl, rfl, rfl, rfl, trivial⟩ (fun _ hs => by have h1 := (((((hs.pull (.there (.there (.there (.there .here))))).pull (.there (.there (.there (.there .here))))).pull (.there (.there (.there (.there .here))))).pull (.there (.there (.there (.there .here))))).pull (.there (.there (.there (.there .here))))); dsimp only; rw [memRow_step, memCell, if_neg hin]; exact h1) 
            · refine Ops.q (q_cmp rfl rfl (c_nlt (by omega))) ?_
              refine Ops.to rfl ?_
              refine Cd.seq ?_
              refine Cd.cond_f rfl ?_
              refine Cd.exitTo rfl ?_
              refine Cd.region ?_
              refine Ops.q (q_ar rfl rfl (a_inc (by omega))) ?_
              refine Ops.q (q_mv rfl) ?_
              refine Ops.rnd ((j + 1, ra, rc)) rfl (by dsimp only; exact (by omega)) (by dsimp only; omega) ⟨rfl, rfl, rfl, rfl, rfl, rfl, rfl, trivial⟩ (fun _ hs => by have h1 := (((((hs.pull (.there (.there (.there (.there .here))))).pull (.there (.there (.there (.there .here))))).pull (.there (.there (.there (.there .here))))).pull (.there (.there (.there (.there .here))))).pull (.there (.there (.there (.there .here))))); have hie : i = m := (by omega); rw [hie] at h1; dsimp only; rw [memTo_step]; exact h1) 
          · refine Ops.q (q_cmp rfl rfl (c_nlt (by omega))) ?_
            refine Ops.to rfl ?_
            refine Cd.seq ?_
            refine Cd.cond_f rfl ?_
            refine Cd.exitTo rfl ?_
            refine Cd.seq ?_
            refine Cd.region ?_
            refine Ops.q (q_fa fo_114_0 rfl) ?_
            refine Ops.q (q_ldBN [.slice a19 ((([] : List Prm) ++ (List.replicate n (1 : Int)).map (setTh (gateP 0))).length) c20, .int .i64 ((m + 1 : Nat) : Int), .slice qa ((([] : List Syn) ++ memTo m (togS ((ls.map prP).take k)) j).length) qc] isA_32 sz_32 rfl .here rfl) ?_
            refine Ops.stB [.slice a19 ((([] : List Prm) ++ (List.replicate n (1 : Int)).map (setTh (gateP 0))).length) c20, .int .i64 ((m + 1 : Nat) : Int), .slice qa ((([] : List Syn) ++ memTo m (togS ((ls.map prP).take k)) j).length) qc] [.slice a19 ((([] : List Prm) ++ (List.replicate n (1 : Int)).map (setTh (gateP 0))).length) c20, .int .i64 ((m + 1 : Nat) : Int), .slice qa ((([] : List Syn) ++ memTo m (togS ((ls.map prP).take k)) j).length) qc] sz_32 rfl rfl rfl (one rfl) (.there (.there (.there (.there .here)))) rfl rfl ?_
            refine Ops.q (q_asg rfl) ?_
            refine Ops.to rfl ?_
            refine Cd.rt (fn := Try.f28) [.agg [.slice a19 ((([] : List Prm) ++ (List.replicate n (1 : Int)).map (setTh (gateP 0))).length) c20, .int .i64 ((m + 1 : Nat) : Int), .slice qa ((([] : List Syn) ++ memTo m (togS ((ls.map prP).take k)) j).length) qc].toArray, .int .i64 0] (by with_reducible repeat (first | exact rq_here | apply rq_then | apply rq_block)) rfl ⟨⟨_, _, rfl, fun _ hs => run_loadN isA_32 sz_32 (fun o u hu => Sat.atB (.there (.there (.there (.there .here)))) (by rw [Nat.zero_add]; exact hu) hs)⟩, rfl, trivial⟩ ?_
            intro w' hs'
            have hj : j = n := by omega
            rw [hj, List.take_of_length_le (show (ls.map prP).length ≤ k from (by rw [List.length_map]; omega))] at hs'
            have hP : memP (m : Int) (n : Int) (ls.map prP) = .ok ⟨(([] : List Prm) ++ (List.replicate n (1 : Int)).map (setTh (gateP 0))), ((m + 1 : Nat) : Int), (([] : List Syn) ++ memTo m (togS (ls.map prP)) n)⟩ := by unfold memP; rw [if_pos hwmn, if_neg (by rw [List.length_map]; omega), h9, if_neg (by decide)]; simp only [List.nil_append, List.map_replicate, Int.toNat_natCast]; rfl
            rw [hP]
            exact ⟨(a19, c20), (qa, qc), by rw [hj, List.take_of_length_le (show (ls.map prP).length ≤ k from (by rw [List.length_map]; omega))]; rfl, (((((hs'.pull (.there (.there .here))).pull (.there (.there .here))).pull (.there (.there .here))).drop.pull (.there (.there .here))).drop.pull (.there (.there .here))).drop⟩
    · refine Ops.cp en_57 rfl (fun w hs => dF (in_c _ _ _ w) h3) ?_
      refine Ops.q (q_not rfl) ?_
      refine Ops.q (q_pickF rfl rfl) ?_
      refine Ops.q (q_asg rfl) ?_
      refine Ops.to rfl ?_
      refine Cd.cond_t rfl ?_
      refine Cd.seq ?_
      refine Cd.region ?_
      refine Ops.q (q_bld [.slice none 0 0, .int .i64 0, .slice none 0 0] pls_32 zc_32 rfl rfl) ?_
      refine Ops.stB [.slice none 0 0, .int .i64 0, .slice none 0 0] [.slice none 0 0, .int .i64 0, .slice none 0 0] sz_32 rfl rfl rfl (one rfl) .here rfl rfl ?_
      refine Ops.q (q_asg rfl) ?_
      refine Ops.to rfl ?_
      refine Cd.rt (fn := Try.f28) [.agg [.slice none 0 0, .int .i64 0, .slice none 0 0].toArray, .int .i64 3] (by with_reducible repeat (first | exact rq_here | apply rq_then | apply rq_block)) rfl ⟨⟨_, _, rfl, fun _ hs => run_loadN isA_32 sz_32 (fun o u hu => Sat.atB .here (by rw [Nat.zero_add]; exact hu) hs)⟩, rfl, trivial⟩ ?_
      intro w' hs'
      rw [show memP mi ni (ls.map prP) = .error 3 by unfold memP; rw [if_neg (fun h => by first | exact h3 h.1 | exact h3 h.2)]]
      exact ⟨rfl, hs'.none⟩
  · refine Ops.cp en_57 rfl (fun w hs => dF (in_c _ _ _ w) h2) ?_
    refine Ops.q (q_not rfl) ?_
    refine Ops.q (q_mv rfl) ?_
    refine Ops.sk ?_
    refine Ops.sk ?_
    refine Ops.sk ?_
    refine Ops.q (q_pickT rfl rfl) ?_
    refine Ops.q (q_asg rfl) ?_
    refine Ops.to rfl ?_
    refine Cd.cond_t rfl ?_
    refine Cd.seq ?_
    refine Cd.region ?_
    refine Ops.q (q_bld [.slice none 0 0, .int .i64 0, .slice none 0 0] pls_32 zc_32 rfl rfl) ?_
    refine Ops.stB [.slice none 0 0, .int .i64 0, .slice none 0 0] [.slice none 0 0, .int .i64 0, .slice none 0 0] sz_32 rfl rfl rfl (one rfl) .here rfl rfl ?_
    refine Ops.q (q_asg rfl) ?_
    refine Ops.to rfl ?_
    refine Cd.rt (fn := Try.f28) [.agg [.slice none 0 0, .int .i64 0, .slice none 0 0].toArray, .int .i64 3] (by with_reducible repeat (first | exact rq_here | apply rq_then | apply rq_block)) rfl ⟨⟨_, _, rfl, fun _ hs => run_loadN isA_32 sz_32 (fun o u hu => Sat.atB .here (by rw [Nat.zero_add]; exact hu) hs)⟩, rfl, trivial⟩ ?_
    intro w' hs'
    rw [show memP mi ni (ls.map prP) = .error 3 by unfold memP; rw [if_neg (fun h => by first | exact h2 h.1 | exact h2 h.2)]]
    exact ⟨rfl, hs'.none⟩
end Go.Proofs.Ytilcdghliigngaa
namespace Go.Proofs.Ytilcdghliigngaa
open Go.RowKit Go.Proofs.YtilcdghliigngaaGl Go.Proofs.YtilcdghliigngaaPm
set_option linter.unusedVariables false
set_option linter.unusedSimpArgs false
end Go.Proofs.Ytilcdghliigngaa
namespace Go.Proofs.Ytilcdghliigngaa
open Go.RowKit Go.Proofs.YtilcdghliigngaaGl Go.Proofs.YtilcdghliigngaaPm
set_option linter.unusedVariables false
set_option linter.unusedSimpArgs false
theorem rowle_any {w0 w : World} {A R : List Atom} {a : Option Addr} {cap sz m : Nat} {E : TypeId} {cs : List Value} (h : Sat w0 w A) (hp : Pull A (row a cap E sz m cs) R) : m ≤ cap := by
  obtain ⟨hlen, hown⟩ := h.own hp
  rcases hown with ⟨h0, h00⟩ | ⟨b', cap', cur, hv0, _, hh, h2, h3, h4, h5⟩
  · omega
  · cases hv0; exact h2
def exN (r : Except Int NetP) : NetP := match r with | .ok N => N | .error _ => ⟨[], 0, []⟩
theorem retR_ok {k : FuncId} {vs : Array Value} {r : Except Int NetP} {w : World} {N : NetP} (h : Calls Try.prog k vs w (RetR r w)) (hr : r = .ok N) :
    Calls Try.prog k vs w fun e w' => ∃ x : (Option Addr × Nat) × (Option Addr × Nat), e = .returned (.tuple #[.agg #[.slice x.1.1 N.ns.length x.1.2, .int .i64 N.inp, .slice x.2.1 N.ss.length x.2.2], .int .i64 0]) ∧ Sat w w' [row x.1.1 x.1.2 116 8 N.ns.length (N.ns.flatMap ePrm), row x.2.1 x.2.2 126 4 N.ss.length (N.ss.flatMap eSyn)] := by
  subst hr
  exact h.mono fun e w' h => by obtain ⟨p, q, h1, h2⟩ := h; exact ⟨(p, q), h1, h2⟩
theorem retL_ok {k : FuncId} {vs : Array Value} {r : Except Int (List Int)} {w : World} {xs : List Int} (h : Calls Try.prog k vs w (RetL r w)) (hr : r = .ok xs) :
    Calls Try.prog k vs w fun e w' => ∃ p : Option Addr × Nat, e = .returned (.tuple #[.slice p.1 xs.length p.2, .int .i64 0]) ∧ Sat w w' [row p.1 p.2 3 1 xs.length (xs.flatMap eInt)] := by
  subst hr; exact h
theorem retE_ok {k : FuncId} {vs : Array Value} {r : Except Int (List Evt)} {w : World} {xs : List Evt} (h : Calls Try.prog k vs w (RetE r w)) (hr : r = .ok xs) :
    Calls Try.prog k vs w fun e w' => ∃ p : Option Addr × Nat, e = .returned (.tuple #[.slice p.1 xs.length p.2, .int .i64 0]) ∧ Sat w w' [row p.1 p.2 88 2 xs.length (xs.flatMap eEvt)] := by
  subst hr; exact h
theorem runW {k : FuncId} {vs : Array Value} {w : World} {out xs : List Evt} (h : Calls Try.prog k vs w fun e w' => ∃ p : Option Addr × Nat, e = .returned (.slice p.1 out.length p.2) ∧ Sat w w' [row p.1 p.2 88 2 out.length (out.flatMap eEvt)]) (hr : out = xs) :
    Calls Try.prog k vs w fun e w' => ∃ p : Option Addr × Nat, e = .returned (.slice p.1 xs.length p.2) ∧ Sat w w' [row p.1 p.2 88 2 xs.length (xs.flatMap eEvt)] := by
  subst hr; exact h
abbrev wE : List Edg := [⟨0, 1, 5⟩, ⟨0, 2, 2⟩, ⟨2, 1, 2⟩]
def wNp : NetP := exN (pathsP 3 wE 0)
def wNs : NetP := exN (sortP 3)
abbrev wA : List (List Int) := [[0, 1], [1, 0]]
def wNm : NetP := exN (machineP wA 0 [false, true])
abbrev wC : List (List Int × Int) := [([], 0), ([0], 1), ([0, 1], -1), ([2], 2)]
def wNh : NetP := exN (hornP 3 wC)
def wNr : NetP := exN (memP 2 2 [([0], [1])])
def wNc : NetP := exN (countP 1 [⟨0, 5, 1⟩] 2)
def wNq : NetP := exN (patP 2 [⟨0, 0⟩, ⟨1, 3⟩] 0)
theorem kNp : pathsP 3 wE 0 = .ok wNp := by kernel_rfl
theorem kNs : sortP 3 = .ok wNs := by kernel_rfl
theorem kNm : machineP wA 0 [false, true] = .ok wNm := by kernel_rfl
theorem kNh : hornP 3 wC = .ok wNh := by kernel_rfl
theorem kNr : memP 2 2 [([0], [1])] = .ok wNr := by kernel_rfl
theorem kNc : countP 1 [⟨0, 5, 1⟩] 2 = .ok wNc := by kernel_rfl
theorem kNq : patP 2 [⟨0, 0⟩, ⟨1, 3⟩] 0 = .ok wNq := by kernel_rfl
theorem kLp : lawRun wNp 0 48 [⟨0, 0⟩] = [⟨1, 0⟩, ⟨3, 2⟩, ⟨5, 1⟩] := by kernel_rfl
theorem kLs : lawRun wNs 0 9 [⟨2, 1⟩, ⟨5, 0⟩, ⟨5, 2⟩] = [⟨3, 0⟩, ⟨6, 1⟩, ⟨6, 2⟩] := by kernel_rfl
theorem kDp : distP 3 [⟨1, 0⟩, ⟨3, 2⟩, ⟨5, 1⟩] = .ok [0, 4, 2] := by kernel_rfl
theorem kBp : befP 3 wE [0, 4, 2] = .ok [-1, 2, 0] := by kernel_rfl
theorem kWm : wordP wA 0 2 [1, 1, 0] = .ok [⟨0, 1⟩, ⟨0, 2⟩, ⟨3, 1⟩, ⟨6, 0⟩] := by kernel_rfl
theorem kLm : lawRun wNm 0 12 [⟨0, 1⟩, ⟨0, 2⟩, ⟨3, 1⟩, ⟨6, 0⟩] = [⟨1, 0⟩, ⟨2, 3⟩, ⟨4, 1⟩, ⟨5, 5⟩, ⟨5, 6⟩, ⟨7, 0⟩, ⟨8, 2⟩, ⟨10, 0⟩] := by kernel_rfl
theorem kSm : statesP wA 0 2 [⟨1, 0⟩, ⟨2, 3⟩, ⟨4, 1⟩, ⟨5, 5⟩, ⟨5, 6⟩, ⟨7, 0⟩, ⟨8, 2⟩, ⟨10, 0⟩] = .ok [0, 1, 0, 0] := by kernel_rfl
theorem kLh : lawRun wNh 0 9 [⟨0, 0⟩] = [⟨1, 4⟩, ⟨2, 0⟩, ⟨3, 5⟩, ⟨4, 1⟩, ⟨5, 6⟩, ⟨6, 3⟩] := by kernel_rfl
theorem kLr : lawRun wNr 0 9 [⟨4, 0⟩, ⟨4, 2⟩] = [⟨5, 1⟩] := by kernel_rfl
theorem kLc : lawRun wNc 0 9 [⟨0, 0⟩] = [⟨1, 0⟩, ⟨2, 0⟩] := by kernel_rfl
theorem kLq : lawRun wNq 0 20 [⟨1, 0⟩, ⟨4, 1⟩] = [⟨17, 0⟩] := by kernel_rfl
theorem works_c (w : World) : Calls Try.prog 13 [].toArray w fun e w' => e = .returned (.bool true) ∧ Sat w w' [] := by
  refine fstart Try.func13 rfl rfl (Sat.nil w) ?_
  refine Cd.seq ?_
  refine Cd.region ?_
  refine Ops.q (q_asg rfl) ?_
  refine Ops.to rfl ?_
  refine Cd.seq ?_
  refine Cd.region ?_
  refine Ops.q (q_bld [.int .i64 0, .int .i64 1, .int .i64 5] pls_82 zc_82 rfl rfl) ?_
  refine Ops.q (q_bld [.int .i64 0, .int .i64 2, .int .i64 2] pls_82 zc_82 rfl rfl) ?_
  refine Ops.q (q_bld [.int .i64 2, .int .i64 1, .int .i64 2] pls_82 zc_82 rfl rfl) ?_
  refine Ops.lit [.int .i64 0, .int .i64 1, .int .i64 5, .int .i64 0, .int .i64 2, .int .i64 2, .int .i64 2, .int .i64 1, .int .i64 2] el_80 zsb_82 rfl rfl ⟨by decide, by decide⟩ rfl ?_
  intro b1
  refine Ops.q (q_asg rfl) ?_
  refine Ops.to rfl ?_
  refine Cd.seq ?_
  refine Cd.region ?_
  refine Ops.q (q_mv rfl) ?_
  refine Ops.cl (α := (Option Addr × Nat) × (Option Addr × Nat)) (v := fun x => .tuple [.agg [.slice x.1.1 wNp.ns.length x.1.2, .int .i64 wNp.inp, .slice x.2.1 wNp.ss.length x.2.2].toArray, .int .i64 0].toArray) (B := fun x => [row x.1.1 x.1.2 116 8 wNp.ns.length (wNp.ns.flatMap ePrm), row x.2.1 x.2.2 126 4 wNp.ss.length (wNp.ss.flatMap eSyn)]) en_34 rfl (fun w hs => retR_ok (paths_c 3 _ _ [⟨0, 1, 5⟩, ⟨0, 2, 2⟩, ⟨2, 1, 2⟩] 0 w (hs.ownRo .here)) kNp) ?_
  rintro ⟨⟨p2, pc3⟩, ⟨q4, qc5⟩⟩
  refine Ops.q (q_mv rfl) ?_
  refine Ops.q (q_ext rfl rfl) ?_
  refine Ops.q (q_ext rfl rfl) ?_
  refine Ops.alc [.slice none 0 0, .int .i64 0, .slice none 0 0] zc_32 ?_
  intro b6
  refine Ops.stB [.slice p2 wNp.ns.length pc3, .int .i64 wNp.inp, .slice q4 wNp.ss.length qc5] [.slice p2 wNp.ns.length pc3, .int .i64 wNp.inp, .slice q4 wNp.ss.length qc5] sz_32 rfl rfl rfl (one rfl) .here rfl rfl ?_
  refine Ops.q (q_asg rfl) ?_
  refine Ops.to rfl ?_
  refine Cd.seq ?_
  refine Cd.draw rfl (by kernel_rfl) (.cons .here .nil) ?_
  intro F7 St8 hP9 hF10 hR11
  refine Dr.q (i := 0) hP9 rfl (by kernel_rfl) (q_ldBN [.slice p2 wNp.ns.length pc3, .int .i64 wNp.inp, .slice q4 wNp.ss.length qc5] isA_32 sz_32 rfl .here rfl) ?_
  refine Dr.q (i := 1) hP9 rfl (by kernel_rfl) (q_mv rfl) ?_
  refine Dr.e (i := 2) rfl (by kernel_rfl) ?_
  refine Ops.cp en_39 rfl (fun w hs => at_c 0 0 w) ?_
  refine Dr.back (fun _ hs => hF10 .here hs) ?_
  refine Dr.e (i := 3) rfl (by kernel_rfl) ?_
  refine Ops.lit [.int .i64 0, .int .i64 0] el_27 zsb_88 rfl rfl ⟨by decide, by decide⟩ rfl ?_
  intro b12
  refine Dr.back (fun _ hs => hF10 (.there .here) hs) ?_
  refine Dr.tail 4 (by kernel_rfl) ?_
  refine Ops.sat ?_ (fun _ hs => hR11 (.there .here) hs)
  refine Ops.cl (α := Option Addr × Nat) (v := fun p => .slice p.1 3 p.2) (B := fun p => [row p.1 p.2 88 2 3 [.int .i64 1, .int .i64 0, .int .i64 3, .int .i64 2, .int .i64 5, .int .i64 1]]) en_46 rfl (fun w hs => runW (lawRun_c _ _ _ _ wNp.ns wNp.inp wNp.ss _ _ ([⟨0, 0⟩] : List Evt) 0 48 w (hs.ownRo (.there (.there .here))) (hs.ownRo (.there (.there (.there .here)))) (hs.ownRo (.there .here)) (by exact rowle_any hs (.there .here))) kLp) ?_
  rintro ⟨ra13, rc14⟩
  refine Ops.q (q_asg rfl) ?_
  refine Ops.to rfl ?_
  refine Cd.seq ?_
  refine Cd.region ?_
  refine Ops.q (q_mv rfl) ?_
  refine Ops.cl (α := Option Addr × Nat) (v := fun p => .tuple [.slice p.1 3 p.2, .int .i64 0].toArray) (B := fun p => [row p.1 p.2 3 1 3 [.int .i64 0, .int .i64 4, .int .i64 2]]) en_37 rfl (fun w hs => retL_ok (dist_c 3 _ _ ([⟨1, 0⟩, ⟨3, 2⟩, ⟨5, 1⟩] : List Evt) w (hs.ownRo .here) (by decide)) kDp) ?_
  rintro ⟨la15, lc16⟩
  refine Ops.q (q_mv rfl) ?_
  refine Ops.q (q_ext rfl rfl) ?_
  refine Ops.q (q_ext rfl rfl) ?_
  refine Ops.q (q_asg rfl) ?_
  refine Ops.q (q_asg rfl) ?_
  refine Ops.to rfl ?_
  refine Cd.seq ?_
  refine Cd.region ?_
  refine Ops.q (q_mv rfl) ?_
  refine Ops.q (q_mv rfl) ?_
  refine Ops.cl (α := Option Addr × Nat) (v := fun p => .tuple [.slice p.1 3 p.2, .int .i64 0].toArray) (B := fun p => [row p.1 p.2 3 1 3 [.int .i64 (-1), .int .i64 2, .int .i64 0]]) en_38 rfl (fun w hs => retL_ok (before_c 3 _ _ wE _ _ [0, 4, 2] w (hs.ownRo (.there (.there (.there (.there (.there (.there .here))))))) (hs.ownRo .here)) kBp) ?_
  rintro ⟨la17, lc18⟩
  refine Ops.q (q_mv rfl) ?_
  refine Ops.q (q_ext rfl rfl) ?_
  refine Ops.q (q_ext rfl rfl) ?_
  refine Ops.q (q_asg rfl) ?_
  refine Ops.q (q_asg rfl) ?_
  refine Ops.to rfl ?_
  refine Cd.seq ?_
  refine Cd.seq ?_
  refine Cd.region ?_
  refine Ops.q (q_mv rfl) ?_
  refine Ops.cp en_39 rfl (fun w hs => at_c 1 0 w) ?_
  refine Ops.cp en_39 rfl (fun w hs => at_c 3 2 w) ?_
  refine Ops.cp en_39 rfl (fun w hs => at_c 5 1 w) ?_
  refine Ops.lit [.int .i64 1, .int .i64 0, .int .i64 3, .int .i64 2, .int .i64 5, .int .i64 1] el_27 zsb_88 rfl rfl ⟨by decide, by decide⟩ rfl ?_
  intro b19
  refine Ops.cp en_20 rfl (fun w hs => dT (events_c _ _ _ _ ([⟨1, 0⟩, ⟨3, 2⟩, ⟨5, 1⟩] : List Evt) ([⟨1, 0⟩, ⟨3, 2⟩, ⟨5, 1⟩] : List Evt) w (hs.ownRo (.there (.there (.there .here)))) (hs.ownRo .here) (by decide)) rfl) ?_
  refine Ops.q (q_not rfl) ?_
  refine Ops.q (q_mv rfl) ?_
  refine Ops.q (q_mv rfl) ?_
  refine Ops.q (q_cmp rfl rfl (c_nne (by decide))) ?_
  refine Ops.q (q_pickF rfl rfl) ?_
  refine Ops.q (q_mv rfl) ?_
  refine Ops.q (q_mv rfl) ?_
  refine Ops.q (q_cmp rfl rfl (c_nne (by decide))) ?_
  refine Ops.q (q_pickF rfl rfl) ?_
  refine Ops.q (q_mv rfl) ?_
  refine Ops.q (q_mv rfl) ?_
  refine Ops.lit [.int .i64 0, .int .i64 4, .int .i64 2] el_26 zsb_3 rfl rfl ⟨by decide, by decide⟩ rfl ?_
  intro b20
  refine Ops.cp en_23 rfl (fun w hs => dT (numbers_c _ _ _ _ ([0, 4, 2] : List Int) ([0, 4, 2] : List Int) w (hs.ownRo (.there (.there (.there .here)))) (hs.ownRo .here) (by decide)) rfl) ?_
  refine Ops.q (q_not rfl) ?_
  refine Ops.q (q_pickF rfl rfl) ?_
  refine Ops.q (q_mv rfl) ?_
  refine Ops.q (q_mv rfl) ?_
  refine Ops.lit [.int .i64 (-1), .int .i64 2, .int .i64 0] el_26 zsb_3 rfl rfl ⟨by decide, by decide⟩ rfl ?_
  intro b21
  refine Ops.cp en_23 rfl (fun w hs => dT (numbers_c _ _ _ _ ([-1, 2, 0] : List Int) ([-1, 2, 0] : List Int) w (hs.ownRo (.there (.there (.there .here)))) (hs.ownRo .here) (by decide)) rfl) ?_
  refine Ops.q (q_not rfl) ?_
  refine Ops.q (q_pickF rfl rfl) ?_
  refine Ops.to rfl ?_
  refine Cd.cond_f rfl ?_
  refine Cd.skipTo rfl ?_
  refine Cd.seq ?_
  refine Cd.sat ?_ (fun _ hs => (((((((((((hs.pull (.there (.there (.there (.there (.there (.there .here))))))).pull (.there .here)).drop.pull (.there .here)).drop.pull (.there .here)).drop.pull (.there .here)).drop.pull (.there .here)).drop.pull (.there .here)).drop.pull (.there .here)).drop.pull (.there .here)).drop.pull (.there .here)).drop.pull (.there .here)).drop)
  refine Cd.region ?_
  refine Ops.cl (α := (Option Addr × Nat) × (Option Addr × Nat)) (v := fun x => .tuple [.agg [.slice x.1.1 wNs.ns.length x.1.2, .int .i64 wNs.inp, .slice x.2.1 wNs.ss.length x.2.2].toArray, .int .i64 0].toArray) (B := fun x => [row x.1.1 x.1.2 116 8 wNs.ns.length (wNs.ns.flatMap ePrm), row x.2.1 x.2.2 126 4 wNs.ss.length (wNs.ss.flatMap eSyn)]) en_24 rfl (fun w hs => retR_ok (sort_c 3 w) kNs) ?_
  rintro ⟨⟨p22, pc23⟩, ⟨q24, qc25⟩⟩
  refine Ops.q (q_mv rfl) ?_
  refine Ops.q (q_ext rfl rfl) ?_
  refine Ops.q (q_ext rfl rfl) ?_
  refine Ops.stB [.slice p22 wNs.ns.length pc23, .int .i64 wNs.inp, .slice q24 wNs.ss.length qc25] [.slice p22 wNs.ns.length pc23, .int .i64 wNs.inp, .slice q24 wNs.ss.length qc25] sz_32 rfl rfl rfl (one rfl) (.there (.there .here)) rfl rfl ?_
  refine Ops.q (q_asg rfl) ?_
  refine Ops.to rfl ?_
  refine Cd.seq ?_
  refine Cd.seq ?_
  refine Cd.draw rfl (by kernel_rfl) (.cons (.there (.there .here)) .nil) ?_
  intro F26 St27 hP28 hF29 hR30
  refine Dr.q (i := 0) hP28 rfl (by kernel_rfl) (q_ldBN [.slice p22 wNs.ns.length pc23, .int .i64 wNs.inp, .slice q24 wNs.ss.length qc25] isA_32 sz_32 rfl .here rfl) ?_
  refine Dr.q (i := 1) hP28 rfl (by kernel_rfl) (q_mv rfl) ?_
  refine Dr.e (i := 2) rfl (by kernel_rfl) ?_
  refine Ops.cp en_39 rfl (fun w hs => at_c 2 1 w) ?_
  refine Dr.back (fun _ hs => hF29 .here hs) ?_
  refine Dr.e (i := 3) rfl (by kernel_rfl) ?_
  refine Ops.cp en_39 rfl (fun w hs => at_c 5 0 w) ?_
  refine Dr.back (fun _ hs => hF29 .here hs) ?_
  refine Dr.e (i := 4) rfl (by kernel_rfl) ?_
  refine Ops.cp en_39 rfl (fun w hs => at_c 5 2 w) ?_
  refine Dr.back (fun _ hs => hF29 .here hs) ?_
  refine Dr.e (i := 5) rfl (by kernel_rfl) ?_
  refine Ops.lit [.int .i64 2, .int .i64 1, .int .i64 5, .int .i64 0, .int .i64 5, .int .i64 2] el_27 zsb_88 rfl rfl ⟨by decide, by decide⟩ rfl ?_
  intro b31
  refine Dr.back (fun _ hs => hF29 (.there .here) hs) ?_
  refine Dr.e (i := 6) rfl (by kernel_rfl) ?_
  refine Ops.cl (α := Option Addr × Nat) (v := fun p => .slice p.1 3 p.2) (B := fun p => [row p.1 p.2 88 2 3 [.int .i64 3, .int .i64 0, .int .i64 6, .int .i64 1, .int .i64 6, .int .i64 2]]) en_46 rfl (fun w hs => runW (lawRun_c _ _ _ _ wNs.ns wNs.inp wNs.ss _ _ ([⟨2, 1⟩, ⟨5, 0⟩, ⟨5, 2⟩] : List Evt) 0 9 w (hs.ownRo (.there (.there .here))) (hs.ownRo (.there (.there (.there .here)))) (hs.ownRo .here) (by exact rowle_any hs .here)) kLs) ?_
  rintro ⟨ra32, rc33⟩
  refine Dr.back (fun _ hs => hF29 (.there (.there .here)) hs) ?_
  refine Dr.e (i := 7) rfl (by kernel_rfl) ?_
  refine Ops.cp en_39 rfl (fun w hs => at_c 3 0 w) ?_
  refine Dr.back (fun _ hs => hF29 (.there (.there .here)) hs) ?_
  refine Dr.e (i := 8) rfl (by kernel_rfl) ?_
  refine Ops.cp en_39 rfl (fun w hs => at_c 6 1 w) ?_
  refine Dr.back (fun _ hs => hF29 (.there (.there .here)) hs) ?_
  refine Dr.e (i := 9) rfl (by kernel_rfl) ?_
  refine Ops.cp en_39 rfl (fun w hs => at_c 6 2 w) ?_
  refine Dr.back (fun _ hs => hF29 (.there (.there .here)) hs) ?_
  refine Dr.e (i := 10) rfl (by kernel_rfl) ?_
  refine Ops.lit [.int .i64 3, .int .i64 0, .int .i64 6, .int .i64 1, .int .i64 6, .int .i64 2] el_27 zsb_88 rfl rfl ⟨by decide, by decide⟩ rfl ?_
  intro b34
  refine Dr.back (fun _ hs => hF29 (.there (.there (.there .here))) hs) ?_
  refine Dr.e (i := 11) rfl (by kernel_rfl) ?_
  refine Ops.cp en_20 rfl (fun w hs => dT (events_c _ _ _ _ ([⟨3, 0⟩, ⟨6, 1⟩, ⟨6, 2⟩] : List Evt) ([⟨3, 0⟩, ⟨6, 1⟩, ⟨6, 2⟩] : List Evt) w (hs.ownRo (.there .here)) (hs.ownRo .here) (by decide)) rfl) ?_
  refine Dr.back (fun _ hs => hF29 (.there (.there (.there .here))) hs) ?_
  refine Dr.q (i := 12) hP28 rfl (by kernel_rfl) (q_not rfl) ?_
  refine Dr.tail 13 (by kernel_rfl) ?_
  refine Ops.sat ?_ (fun _ hs => hR30 (.there (.there (.there .here))) hs)
  refine Ops.to rfl ?_
  refine Cd.cond_f rfl ?_
  refine Cd.skipTo rfl ?_
  refine Cd.seq ?_
  refine Cd.sat ?_ (fun _ hs => ((((((hs.pull .here).pull (.there .here)).drop.pull (.there .here)).drop.pull (.there .here)).drop.pull (.there .here)).drop.pull (.there .here)).drop)
  refine Cd.region ?_
  refine Ops.lit [.int .i64 0, .int .i64 1] el_26 zsb_3 rfl rfl ⟨by decide, by decide⟩ rfl ?_
  intro b35
  refine Ops.lit [.int .i64 1, .int .i64 0] el_26 zsb_3 rfl rfl ⟨by decide, by decide⟩ rfl ?_
  intro b36
  refine Ops.lit [.slice (some ⟨b35, 0, none⟩) 2 2, .slice (some ⟨b36, 0, none⟩) 2 2] el_22 zsb_26 rfl rfl ⟨by decide, by decide⟩ rfl ?_
  intro b37
  refine Ops.lit [.bool false, .bool true] el_23 zsb_4 rfl rfl ⟨by decide, by decide⟩ rfl ?_
  intro b38
  refine Ops.q (q_bld [.slice (some ⟨b37, 0, none⟩) 2 2, .int .i64 0, .slice (some ⟨b38, 0, none⟩) 2 2] pls_36 zc_36 rfl rfl) ?_
  refine Ops.alc [.slice none 0 0, .int .i64 0, .slice none 0 0] zc_36 ?_
  intro b39
  refine Ops.stB [.slice (some ⟨b37, 0, none⟩) 2 2, .int .i64 0, .slice (some ⟨b38, 0, none⟩) 2 2] [.slice (some ⟨b37, 0, none⟩) 2 2, .int .i64 0, .slice (some ⟨b38, 0, none⟩) 2 2] sz_36 rfl rfl rfl (one rfl) .here rfl rfl ?_
  refine Ops.to rfl ?_
  refine Cd.seq ?_
  refine Cd.region ?_
  refine Ops.q (q_ldBN [.slice (some ⟨b37, 0, none⟩) 2 2, .int .i64 0, .slice (some ⟨b38, 0, none⟩) 2 2] isA_36 sz_36 rfl .here rfl) ?_
  refine Ops.cl (α := (Option Addr × Nat) × (Option Addr × Nat)) (v := fun x => .tuple [.agg [.slice x.1.1 wNm.ns.length x.1.2, .int .i64 wNm.inp, .slice x.2.1 wNm.ss.length x.2.2].toArray, .int .i64 0].toArray) (B := fun x => [row x.1.1 x.1.2 116 8 wNm.ns.length (wNm.ns.flatMap ePrm), row x.2.1 x.2.2 126 4 wNm.ss.length (wNm.ss.flatMap eSyn)]) en_14 rfl (fun w hs => retR_ok (machine_c _ _ [(((some ⟨b35, 0, none⟩, 2), ([0, 1] : List Int)) : NL), (((some ⟨b36, 0, none⟩, 2), ([1, 0] : List Int)) : NL)] 0 _ _ [false, true] w ⟨hs.ownRo (.there (.there .here)), List.forall_mem_cons.2 ⟨hs.ownRo (.there (.there (.there (.there .here)))), List.forall_mem_cons.2 ⟨hs.ownRo (.there (.there (.there .here))), fun _ h => by cases h⟩⟩⟩ (hs.ownRo (.there .here))) kNm) ?_
  rintro ⟨⟨p40, pc41⟩, ⟨q42, qc43⟩⟩
  refine Ops.q (q_mv rfl) ?_
  refine Ops.q (q_ext rfl rfl) ?_
  refine Ops.q (q_ext rfl rfl) ?_
  refine Ops.stB [.slice p40 wNm.ns.length pc41, .int .i64 wNm.inp, .slice q42 wNm.ss.length qc43] [.slice p40 wNm.ns.length pc41, .int .i64 wNm.inp, .slice q42 wNm.ss.length qc43] sz_32 rfl rfl rfl (one rfl) (.there (.there (.there (.there (.there (.there (.there .here))))))) rfl rfl ?_
  refine Ops.q (q_asg rfl) ?_
  refine Ops.to rfl ?_
  refine Cd.seq ?_
  refine Cd.region ?_
  refine Ops.q (q_ldBN [.slice (some ⟨b37, 0, none⟩) 2 2, .int .i64 0, .slice (some ⟨b38, 0, none⟩) 2 2] isA_36 sz_36 rfl (.there (.there .here)) rfl) ?_
  refine Ops.lit [.int .i64 1, .int .i64 1, .int .i64 0] el_26 zsb_3 rfl rfl ⟨by decide, by decide⟩ rfl ?_
  intro b44
  refine Ops.cl (α := Option Addr × Nat) (v := fun p => .tuple [.slice p.1 4 p.2, .int .i64 0].toArray) (B := fun p => [row p.1 p.2 88 2 4 [.int .i64 0, .int .i64 1, .int .i64 0, .int .i64 2, .int .i64 3, .int .i64 1, .int .i64 6, .int .i64 0]]) en_18 rfl (fun w hs => retE_ok (word_c _ _ [(((some ⟨b35, 0, none⟩, 2), ([0, 1] : List Int)) : NL), (((some ⟨b36, 0, none⟩, 2), ([1, 0] : List Int)) : NL)] 0 _ 2 _ _ _ [1, 1, 0] w ⟨hs.ownRo (.there (.there (.there (.there (.there .here))))), List.forall_mem_cons.2 ⟨hs.ownRo (.there (.there (.there (.there (.there (.there (.there .here))))))), List.forall_mem_cons.2 ⟨hs.ownRo (.there (.there (.there (.there (.there (.there .here)))))), fun _ h => by cases h⟩⟩⟩ (hs.ownRo .here)) kWm) ?_
  rintro ⟨la45, lc46⟩
  refine Ops.q (q_mv rfl) ?_
  refine Ops.q (q_ext rfl rfl) ?_
  refine Ops.q (q_ext rfl rfl) ?_
  refine Ops.q (q_asg rfl) ?_
  refine Ops.q (q_asg rfl) ?_
  refine Ops.to rfl ?_
  refine Cd.seq ?_
  refine Cd.region ?_
  refine Ops.q (q_ldBN [.slice p40 wNm.ns.length pc41, .int .i64 wNm.inp, .slice q42 wNm.ss.length qc43] isA_32 sz_32 rfl (.there (.there (.there (.there (.there (.there (.there (.there (.there .here))))))))) rfl) ?_
  refine Ops.q (q_mv rfl) ?_
  refine Ops.q (q_mv rfl) ?_
  refine Ops.cl (α := Option Addr × Nat) (v := fun p => .slice p.1 8 p.2) (B := fun p => [row p.1 p.2 88 2 8 [.int .i64 1, .int .i64 0, .int .i64 2, .int .i64 3, .int .i64 4, .int .i64 1, .int .i64 5, .int .i64 5, .int .i64 5, .int .i64 6, .int .i64 7, .int .i64 0, .int .i64 8, .int .i64 2, .int .i64 10, .int .i64 0]]) en_46 rfl (fun w hs => runW (lawRun_c _ _ _ _ wNm.ns wNm.inp wNm.ss _ _ ([⟨0, 1⟩, ⟨0, 2⟩, ⟨3, 1⟩, ⟨6, 0⟩] : List Evt) 0 12 w (hs.ownRo (.there (.there .here))) (hs.ownRo (.there (.there (.there .here)))) (hs.ownRo .here) (by exact rowle_any hs .here)) kLm) ?_
  rintro ⟨ra47, rc48⟩
  refine Ops.q (q_asg rfl) ?_
  refine Ops.to rfl ?_
  refine Cd.seq ?_
  refine Cd.region ?_
  refine Ops.q (q_ldBN [.slice (some ⟨b37, 0, none⟩) 2 2, .int .i64 0, .slice (some ⟨b38, 0, none⟩) 2 2] isA_36 sz_36 rfl (.there (.there (.there (.there (.there .here))))) rfl) ?_
  refine Ops.q (q_mv rfl) ?_
  refine Ops.cl (α := Option Addr × Nat) (v := fun p => .tuple [.slice p.1 4 p.2, .int .i64 0].toArray) (B := fun p => [row p.1 p.2 3 1 4 [.int .i64 0, .int .i64 1, .int .i64 0, .int .i64 0]]) en_21 rfl (fun w hs => retL_ok (states_c _ _ [(((some ⟨b35, 0, none⟩, 2), ([0, 1] : List Int)) : NL), (((some ⟨b36, 0, none⟩, 2), ([1, 0] : List Int)) : NL)] 0 _ 2 _ _ _ ([⟨1, 0⟩, ⟨2, 3⟩, ⟨4, 1⟩, ⟨5, 5⟩, ⟨5, 6⟩, ⟨7, 0⟩, ⟨8, 2⟩, ⟨10, 0⟩] : List Evt) w ⟨hs.ownRo (.there (.there (.there (.there (.there (.there (.there .here))))))), List.forall_mem_cons.2 ⟨hs.ownRo (.there (.there (.there (.there (.there (.there (.there (.there (.there .here))))))))), List.forall_mem_cons.2 ⟨hs.ownRo (.there (.there (.there (.there (.there (.there (.there (.there .here)))))))), fun _ h => by cases h⟩⟩⟩ (hs.ownRo .here) (by decide)) kSm) ?_
  rintro ⟨la49, lc50⟩
  refine Ops.q (q_mv rfl) ?_
  refine Ops.q (q_ext rfl rfl) ?_
  refine Ops.q (q_ext rfl rfl) ?_
  refine Ops.q (q_asg rfl) ?_
  refine Ops.q (q_asg rfl) ?_
  refine Ops.to rfl ?_
  refine Cd.seq ?_
  refine Cd.seq ?_
  refine Cd.region ?_
  refine Ops.q (q_mv rfl) ?_
  refine Ops.q (q_cmp rfl rfl (c_nne (by decide))) ?_
  refine Ops.q (q_mv rfl) ?_
  refine Ops.q (q_mv rfl) ?_
  refine Ops.q (q_cmp rfl rfl (c_nne (by decide))) ?_
  refine Ops.q (q_pickF rfl rfl) ?_
  refine Ops.q (q_mv rfl) ?_
  refine Ops.q (q_mv rfl) ?_
  refine Ops.cp en_39 rfl (fun w hs => at_c 0 1 w) ?_
  refine Ops.cp en_39 rfl (fun w hs => at_c 0 2 w) ?_
  refine Ops.cp en_39 rfl (fun w hs => at_c 3 1 w) ?_
  refine Ops.cp en_39 rfl (fun w hs => at_c 6 0 w) ?_
  refine Ops.lit [.int .i64 0, .int .i64 1, .int .i64 0, .int .i64 2, .int .i64 3, .int .i64 1, .int .i64 6, .int .i64 0] el_27 zsb_88 rfl rfl ⟨by decide, by decide⟩ rfl ?_
  intro b51
  refine Ops.cp en_20 rfl (fun w hs => dT (events_c _ _ _ _ ([⟨0, 1⟩, ⟨0, 2⟩, ⟨3, 1⟩, ⟨6, 0⟩] : List Evt) ([⟨0, 1⟩, ⟨0, 2⟩, ⟨3, 1⟩, ⟨6, 0⟩] : List Evt) w (hs.ownRo (.there (.there (.there .here)))) (hs.ownRo .here) (by decide)) rfl) ?_
  refine Ops.q (q_not rfl) ?_
  refine Ops.q (q_pickF rfl rfl) ?_
  refine Ops.q (q_mv rfl) ?_
  refine Ops.q (q_mv rfl) ?_
  refine Ops.lit [.int .i64 0, .int .i64 1, .int .i64 0, .int .i64 0] el_26 zsb_3 rfl rfl ⟨by decide, by decide⟩ rfl ?_
  intro b52
  refine Ops.cp en_23 rfl (fun w hs => dT (numbers_c _ _ _ _ ([0, 1, 0, 0] : List Int) ([0, 1, 0, 0] : List Int) w (hs.ownRo (.there (.there .here))) (hs.ownRo .here) (by decide)) rfl) ?_
  refine Ops.q (q_not rfl) ?_
  refine Ops.q (q_pickF rfl rfl) ?_
  refine Ops.to rfl ?_
  refine Cd.cond_f rfl ?_
  refine Cd.skipTo rfl ?_
  refine Cd.seq ?_
  refine Cd.sat ?_ (fun _ hs => ((((((((((((((hs.pull (.there (.there (.there (.there (.there (.there (.there (.there (.there (.there (.there (.there (.there .here)))))))))))))).pull (.there .here)).drop.pull (.there .here)).drop.pull (.there .here)).drop.pull (.there .here)).drop.pull (.there .here)).drop.pull (.there .here)).drop.pull (.there .here)).drop.pull (.there .here)).drop.pull (.there .here)).drop.pull (.there .here)).drop.pull (.there .here)).drop.pull (.there .here)).drop.pull (.there .here)).drop)
  refine Cd.region ?_
  refine Ops.q (q_bld [.slice none 0 0, .int .i64 0] pls_55 zc_55 rfl rfl) ?_
  refine Ops.lit [.int .i64 0] el_26 zsb_3 rfl rfl ⟨by decide, by decide⟩ rfl ?_
  intro b53
  refine Ops.q (q_bld [.slice (some ⟨b53, 0, none⟩) 1 1, .int .i64 1] pls_55 zc_55 rfl rfl) ?_
  refine Ops.lit [.int .i64 0, .int .i64 1] el_26 zsb_3 rfl rfl ⟨by decide, by decide⟩ rfl ?_
  intro b54
  refine Ops.q (q_bld [.slice (some ⟨b54, 0, none⟩) 2 2, .int .i64 (-1)] pls_55 zc_55 rfl rfl) ?_
  refine Ops.lit [.int .i64 2] el_26 zsb_3 rfl rfl ⟨by decide, by decide⟩ rfl ?_
  intro b55
  refine Ops.q (q_bld [.slice (some ⟨b55, 0, none⟩) 1 1, .int .i64 2] pls_55 zc_55 rfl rfl) ?_
  refine Ops.lit [.slice none 0 0, .int .i64 0, .slice (some ⟨b53, 0, none⟩) 1 1, .int .i64 1, .slice (some ⟨b54, 0, none⟩) 2 2, .int .i64 (-1), .slice (some ⟨b55, 0, none⟩) 1 1, .int .i64 2] el_52 zsb_55 rfl rfl ⟨by decide, by decide⟩ rfl ?_
  intro b56
  refine Ops.cl (α := (Option Addr × Nat) × (Option Addr × Nat)) (v := fun x => .tuple [.agg [.slice x.1.1 wNh.ns.length x.1.2, .int .i64 wNh.inp, .slice x.2.1 wNh.ss.length x.2.2].toArray, .int .i64 0].toArray) (B := fun x => [row x.1.1 x.1.2 116 8 wNh.ns.length (wNh.ns.flatMap ePrm), row x.2.1 x.2.2 126 4 wNh.ss.length (wNh.ss.flatMap eSyn)]) en_26 rfl (fun w hs => retR_ok (horn_c 3 _ _ [((((none, 0), []), 0) : CL), ((((some ⟨b53, 0, none⟩, 1), ([0] : List Int)), 1) : CL), ((((some ⟨b54, 0, none⟩, 2), ([0, 1] : List Int)), -1) : CL), ((((some ⟨b55, 0, none⟩, 1), ([2] : List Int)), 2) : CL)] w ⟨hs.ownRo .here, List.forall_mem_cons.2 ⟨(Ro.nil _ _), List.forall_mem_cons.2 ⟨hs.ownRo (.there (.there (.there .here))), List.forall_mem_cons.2 ⟨hs.ownRo (.there (.there .here)), List.forall_mem_cons.2 ⟨hs.ownRo (.there .here), fun _ h => by cases h⟩⟩⟩⟩⟩) kNh) ?_
  rintro ⟨⟨p57, pc58⟩, ⟨q59, qc60⟩⟩
  refine Ops.q (q_mv rfl) ?_
  refine Ops.q (q_ext rfl rfl) ?_
  refine Ops.q (q_ext rfl rfl) ?_
  refine Ops.stB [.slice p57 wNh.ns.length pc58, .int .i64 wNh.inp, .slice q59 wNh.ss.length qc60] [.slice p57 wNh.ns.length pc58, .int .i64 wNh.inp, .slice q59 wNh.ss.length qc60] sz_32 rfl rfl rfl (one rfl) (.there (.there (.there (.there (.there (.there .here)))))) rfl rfl ?_
  refine Ops.q (q_asg rfl) ?_
  refine Ops.to rfl ?_
  refine Cd.seq ?_
  refine Cd.seq ?_
  refine Cd.draw rfl (by kernel_rfl) (.cons (.there (.there (.there (.there (.there (.there .here)))))) .nil) ?_
  intro F61 St62 hP63 hF64 hR65
  refine Dr.q (i := 0) hP63 rfl (by kernel_rfl) (q_ldBN [.slice p57 wNh.ns.length pc58, .int .i64 wNh.inp, .slice q59 wNh.ss.length qc60] isA_32 sz_32 rfl .here rfl) ?_
  refine Dr.q (i := 1) hP63 rfl (by kernel_rfl) (q_mv rfl) ?_
  refine Dr.e (i := 2) rfl (by kernel_rfl) ?_
  refine Ops.cp en_39 rfl (fun w hs => at_c 0 0 w) ?_
  refine Dr.back (fun _ hs => hF64 .here hs) ?_
  refine Dr.e (i := 3) rfl (by kernel_rfl) ?_
  refine Ops.lit [.int .i64 0, .int .i64 0] el_27 zsb_88 rfl rfl ⟨by decide, by decide⟩ rfl ?_
  intro b66
  refine Dr.back (fun _ hs => hF64 (.there .here) hs) ?_
  refine Dr.tail 4 (by kernel_rfl) ?_
  refine Ops.sat ?_ (fun _ hs => hR65 (.there .here) hs)
  refine Ops.cl (α := Option Addr × Nat) (v := fun p => .slice p.1 6 p.2) (B := fun p => [row p.1 p.2 88 2 6 [.int .i64 1, .int .i64 4, .int .i64 2, .int .i64 0, .int .i64 3, .int .i64 5, .int .i64 4, .int .i64 1, .int .i64 5, .int .i64 6, .int .i64 6, .int .i64 3]]) en_46 rfl (fun w hs => runW (lawRun_c _ _ _ _ wNh.ns wNh.inp wNh.ss _ _ ([⟨0, 0⟩] : List Evt) 0 9 w (hs.ownRo (.there (.there .here))) (hs.ownRo (.there (.there (.there .here)))) (hs.ownRo (.there .here)) (by exact rowle_any hs (.there .here))) kLh) ?_
  rintro ⟨ra67, rc68⟩
  refine Ops.q (q_asg rfl) ?_
  refine Ops.to rfl ?_
  refine Cd.seq ?_
  refine Cd.rowpos .here (by decide) ?_
  rintro rb rfl
  refine Cd.draw rfl (by kernel_rfl) (.cons .here .nil) ?_
  intro F69 St70 hP71 hF72 hR73
  refine Dr.q (i := 0) hP71 rfl (by kernel_rfl) (q_mv rfl) ?_
  refine Dr.q (i := 1) hP71 rfl (by kernel_rfl) (q_len esz_27 rfl) ?_
  refine Dr.q (i := 2) hP71 rfl (by kernel_rfl) (q_cmp rfl rfl (c_nne (by decide))) ?_
  refine Dr.q (i := 3) hP71 rfl (by kernel_rfl) (q_mv rfl) ?_
  refine Dr.q (i := 4) hP71 rfl (by kernel_rfl) (q_mv rfl) ?_
  refine Dr.q (i := 5) hP71 rfl (by kernel_rfl) (q_ix (k := 1) esz_27 rfl rfl (by omega)) ?_
  refine Dr.q (i := 6) hP71 rfl (by kernel_rfl) (q_ldON [.int .i64 2, .int .i64 0] isA_88 sz_88 rfl .here rfl) ?_
  refine Dr.e (i := 7) rfl (by kernel_rfl) ?_
  refine Ops.cp en_39 rfl (fun w hs => at_c 2 0 w) ?_
  refine Dr.back (fun _ hs => hF72 .here hs) ?_
  refine Dr.q (i := 8) hP71 rfl (by kernel_rfl) (q_neF [2, 0] [2, 0] intS_88 rfl rfl rfl rfl rfl (by decide)) ?_
  refine Dr.q (i := 9) hP71 rfl (by kernel_rfl) (q_pickF rfl rfl) ?_
  refine Dr.q (i := 10) hP71 rfl (by kernel_rfl) (q_mv rfl) ?_
  refine Dr.q (i := 11) hP71 rfl (by kernel_rfl) (q_mv rfl) ?_
  refine Dr.q (i := 12) hP71 rfl (by kernel_rfl) (q_ix (k := 3) esz_27 rfl rfl (by omega)) ?_
  refine Dr.q (i := 13) hP71 rfl (by kernel_rfl) (q_ldON [.int .i64 4, .int .i64 1] isA_88 sz_88 rfl .here rfl) ?_
  refine Dr.e (i := 14) rfl (by kernel_rfl) ?_
  refine Ops.cp en_39 rfl (fun w hs => at_c 4 1 w) ?_
  refine Dr.back (fun _ hs => hF72 .here hs) ?_
  refine Dr.q (i := 15) hP71 rfl (by kernel_rfl) (q_neF [4, 1] [4, 1] intS_88 rfl rfl rfl rfl rfl (by decide)) ?_
  refine Dr.q (i := 16) hP71 rfl (by kernel_rfl) (q_pickF rfl rfl) ?_
  refine Dr.q (i := 17) hP71 rfl (by kernel_rfl) (q_mv rfl) ?_
  refine Dr.q (i := 18) hP71 rfl (by kernel_rfl) (q_mv rfl) ?_
  refine Dr.q (i := 19) hP71 rfl (by kernel_rfl) (q_ix (k := 5) esz_27 rfl rfl (by omega)) ?_
  refine Dr.q (i := 20) hP71 rfl (by kernel_rfl) (q_ldON [.int .i64 6, .int .i64 3] isA_88 sz_88 rfl .here rfl) ?_
  refine Dr.e (i := 21) rfl (by kernel_rfl) ?_
  refine Ops.cp en_39 rfl (fun w hs => at_c 6 3 w) ?_
  refine Dr.back (fun _ hs => hF72 .here hs) ?_
  refine Dr.q (i := 22) hP71 rfl (by kernel_rfl) (q_neF [6, 3] [6, 3] intS_88 rfl rfl rfl rfl rfl (by decide)) ?_
  refine Dr.q (i := 23) hP71 rfl (by kernel_rfl) (q_pickF rfl rfl) ?_
  refine Dr.tail 24 (by kernel_rfl) ?_
  refine Ops.sat ?_ (fun _ hs => hR73 .here hs)
  refine Ops.to rfl ?_
  refine Cd.cond_f rfl ?_
  refine Cd.skipTo rfl ?_
  refine Cd.seq ?_
  refine Cd.sat ?_ (fun _ hs => (((((((((hs.pull (.there .here)).pull (.there .here)).drop.pull (.there .here)).drop.pull (.there .here)).drop.pull (.there .here)).drop.pull (.there .here)).drop.pull (.there .here)).drop.pull (.there .here)).drop.pull (.there .here)).drop)
  refine Cd.region ?_
  refine Ops.lit [.int .i64 0] el_26 zsb_3 rfl rfl ⟨by decide, by decide⟩ rfl ?_
  intro b74
  refine Ops.lit [.int .i64 1] el_26 zsb_3 rfl rfl ⟨by decide, by decide⟩ rfl ?_
  intro b75
  refine Ops.q (q_bld [.slice (some ⟨b74, 0, none⟩) 1 1, .slice (some ⟨b75, 0, none⟩) 1 1] pls_61 zc_61 rfl rfl) ?_
  refine Ops.lit [.slice (some ⟨b74, 0, none⟩) 1 1, .slice (some ⟨b75, 0, none⟩) 1 1] el_58 zsb_61 rfl rfl ⟨by decide, by decide⟩ rfl ?_
  intro b76
  refine Ops.cl (α := (Option Addr × Nat) × (Option Addr × Nat)) (v := fun x => .tuple [.agg [.slice x.1.1 wNr.ns.length x.1.2, .int .i64 wNr.inp, .slice x.2.1 wNr.ss.length x.2.2].toArray, .int .i64 0].toArray) (B := fun x => [row x.1.1 x.1.2 116 8 wNr.ns.length (wNr.ns.flatMap ePrm), row x.2.1 x.2.2 126 4 wNr.ss.length (wNr.ss.flatMap eSyn)]) en_28 rfl (fun w hs => retR_ok (memory_c 2 2 _ _ [(((((some ⟨b74, 0, none⟩, 1), [0]), ((some ⟨b75, 0, none⟩, 1), [1]))) : PR)] w ⟨hs.ownRo .here, List.forall_mem_cons.2 ⟨⟨hs.ownRo (.there (.there .here)), hs.ownRo (.there .here)⟩, fun _ h => by cases h⟩⟩ (List.forall_mem_cons.2 ⟨⟨(show (1 : Nat) ≤ 1000000 by decide), (show (1 : Nat) ≤ 1000000 by decide)⟩, fun _ h => by cases h⟩)) kNr) ?_
  rintro ⟨⟨p77, pc78⟩, ⟨q79, qc80⟩⟩
  refine Ops.q (q_mv rfl) ?_
  refine Ops.q (q_ext rfl rfl) ?_
  refine Ops.q (q_ext rfl rfl) ?_
  refine Ops.stB [.slice p77 wNr.ns.length pc78, .int .i64 wNr.inp, .slice q79 wNr.ss.length qc80] [.slice p77 wNr.ns.length pc78, .int .i64 wNr.inp, .slice q79 wNr.ss.length qc80] sz_32 rfl rfl rfl (one rfl) (.there (.there (.there (.there (.there .here))))) rfl rfl ?_
  refine Ops.q (q_asg rfl) ?_
  refine Ops.to rfl ?_
  refine Cd.seq ?_
  refine Cd.seq ?_
  refine Cd.draw rfl (by kernel_rfl) (.cons (.there (.there (.there (.there (.there .here))))) .nil) ?_
  intro F81 St82 hP83 hF84 hR85
  refine Dr.q (i := 0) hP83 rfl (by kernel_rfl) (q_ldBN [.slice p77 wNr.ns.length pc78, .int .i64 wNr.inp, .slice q79 wNr.ss.length qc80] isA_32 sz_32 rfl .here rfl) ?_
  refine Dr.q (i := 1) hP83 rfl (by kernel_rfl) (q_mv rfl) ?_
  refine Dr.e (i := 2) rfl (by kernel_rfl) ?_
  refine Ops.cp en_39 rfl (fun w hs => at_c 4 0 w) ?_
  refine Dr.back (fun _ hs => hF84 .here hs) ?_
  refine Dr.e (i := 3) rfl (by kernel_rfl) ?_
  refine Ops.cp en_39 rfl (fun w hs => at_c 4 2 w) ?_
  refine Dr.back (fun _ hs => hF84 .here hs) ?_
  refine Dr.e (i := 4) rfl (by kernel_rfl) ?_
  refine Ops.lit [.int .i64 4, .int .i64 0, .int .i64 4, .int .i64 2] el_27 zsb_88 rfl rfl ⟨by decide, by decide⟩ rfl ?_
  intro b86
  refine Dr.back (fun _ hs => hF84 (.there .here) hs) ?_
  refine Dr.e (i := 5) rfl (by kernel_rfl) ?_
  refine Ops.cl (α := Option Addr × Nat) (v := fun p => .slice p.1 1 p.2) (B := fun p => [row p.1 p.2 88 2 1 [.int .i64 5, .int .i64 1]]) en_46 rfl (fun w hs => runW (lawRun_c _ _ _ _ wNr.ns wNr.inp wNr.ss _ _ ([⟨4, 0⟩, ⟨4, 2⟩] : List Evt) 0 9 w (hs.ownRo (.there (.there .here))) (hs.ownRo (.there (.there (.there .here)))) (hs.ownRo .here) (by exact rowle_any hs .here)) kLr) ?_
  rintro ⟨ra87, rc88⟩
  refine Dr.back (fun _ hs => hF84 (.there (.there .here)) hs) ?_
  refine Dr.e (i := 6) rfl (by kernel_rfl) ?_
  refine Ops.cp en_39 rfl (fun w hs => at_c 5 1 w) ?_
  refine Dr.back (fun _ hs => hF84 (.there (.there .here)) hs) ?_
  refine Dr.e (i := 7) rfl (by kernel_rfl) ?_
  refine Ops.lit [.int .i64 5, .int .i64 1] el_27 zsb_88 rfl rfl ⟨by decide, by decide⟩ rfl ?_
  intro b89
  refine Dr.back (fun _ hs => hF84 (.there (.there (.there .here))) hs) ?_
  refine Dr.e (i := 8) rfl (by kernel_rfl) ?_
  refine Ops.cp en_20 rfl (fun w hs => dT (events_c _ _ _ _ ([⟨5, 1⟩] : List Evt) ([⟨5, 1⟩] : List Evt) w (hs.ownRo (.there .here)) (hs.ownRo .here) (by decide)) rfl) ?_
  refine Dr.back (fun _ hs => hF84 (.there (.there (.there .here))) hs) ?_
  refine Dr.q (i := 9) hP83 rfl (by kernel_rfl) (q_not rfl) ?_
  refine Dr.tail 10 (by kernel_rfl) ?_
  refine Ops.sat ?_ (fun _ hs => hR85 (.there (.there (.there .here))) hs)
  refine Ops.to rfl ?_
  refine Cd.cond_f rfl ?_
  refine Cd.skipTo rfl ?_
  refine Cd.seq ?_
  refine Cd.sat ?_ (fun _ hs => (((((((((hs.pull .here).pull (.there .here)).drop.pull (.there .here)).drop.pull (.there .here)).drop.pull (.there .here)).drop.pull (.there .here)).drop.pull (.there .here)).drop.pull (.there .here)).drop.pull (.there .here)).drop)
  refine Cd.region ?_
  refine Ops.q (q_bld [.int .i64 0, .int .i64 5, .int .i64 1] pls_70 zc_70 rfl rfl) ?_
  refine Ops.lit [.int .i64 0, .int .i64 5, .int .i64 1] el_67 zsb_70 rfl rfl ⟨by decide, by decide⟩ rfl ?_
  intro b90
  refine Ops.cl (α := (Option Addr × Nat) × (Option Addr × Nat)) (v := fun x => .tuple [.agg [.slice x.1.1 wNc.ns.length x.1.2, .int .i64 wNc.inp, .slice x.2.1 wNc.ss.length x.2.2].toArray, .int .i64 0].toArray) (B := fun x => [row x.1.1 x.1.2 116 8 wNc.ns.length (wNc.ns.flatMap ePrm), row x.2.1 x.2.2 126 4 wNc.ss.length (wNc.ss.flatMap eSyn)]) en_30 rfl (fun w hs => retR_ok (count_c 1 _ _ [⟨0, 5, 1⟩] 2 w (hs.ownRo .here)) kNc) ?_
  rintro ⟨⟨p91, pc92⟩, ⟨q93, qc94⟩⟩
  refine Ops.q (q_mv rfl) ?_
  refine Ops.q (q_ext rfl rfl) ?_
  refine Ops.q (q_ext rfl rfl) ?_
  refine Ops.stB [.slice p91 wNc.ns.length pc92, .int .i64 wNc.inp, .slice q93 wNc.ss.length qc94] [.slice p91 wNc.ns.length pc92, .int .i64 wNc.inp, .slice q93 wNc.ss.length qc94] sz_32 rfl rfl rfl (one rfl) (.there (.there (.there .here))) rfl rfl ?_
  refine Ops.q (q_asg rfl) ?_
  refine Ops.to rfl ?_
  refine Cd.seq ?_
  refine Cd.seq ?_
  refine Cd.draw rfl (by kernel_rfl) (.cons (.there (.there (.there .here))) .nil) ?_
  intro F95 St96 hP97 hF98 hR99
  refine Dr.q (i := 0) hP97 rfl (by kernel_rfl) (q_ldBN [.slice p91 wNc.ns.length pc92, .int .i64 wNc.inp, .slice q93 wNc.ss.length qc94] isA_32 sz_32 rfl .here rfl) ?_
  refine Dr.q (i := 1) hP97 rfl (by kernel_rfl) (q_mv rfl) ?_
  refine Dr.e (i := 2) rfl (by kernel_rfl) ?_
  refine Ops.cp en_39 rfl (fun w hs => at_c 0 0 w) ?_
  refine Dr.back (fun _ hs => hF98 .here hs) ?_
  refine Dr.e (i := 3) rfl (by kernel_rfl) ?_
  refine Ops.lit [.int .i64 0, .int .i64 0] el_27 zsb_88 rfl rfl ⟨by decide, by decide⟩ rfl ?_
  intro b100
  refine Dr.back (fun _ hs => hF98 (.there .here) hs) ?_
  refine Dr.tail 4 (by kernel_rfl) ?_
  refine Ops.sat ?_ (fun _ hs => hR99 (.there .here) hs)
  refine Ops.cl (α := Option Addr × Nat) (v := fun p => .slice p.1 2 p.2) (B := fun p => [row p.1 p.2 88 2 2 [.int .i64 1, .int .i64 0, .int .i64 2, .int .i64 0]]) en_46 rfl (fun w hs => runW (lawRun_c _ _ _ _ wNc.ns wNc.inp wNc.ss _ _ ([⟨0, 0⟩] : List Evt) 0 9 w (hs.ownRo (.there (.there .here))) (hs.ownRo (.there (.there (.there .here)))) (hs.ownRo (.there .here)) (by exact rowle_any hs (.there .here))) kLc) ?_
  rintro ⟨ra101, rc102⟩
  refine Ops.cp en_39 rfl (fun w hs => at_c 1 0 w) ?_
  refine Ops.cp en_39 rfl (fun w hs => at_c 2 0 w) ?_
  refine Ops.lit [.int .i64 1, .int .i64 0, .int .i64 2, .int .i64 0] el_27 zsb_88 rfl rfl ⟨by decide, by decide⟩ rfl ?_
  intro b103
  refine Ops.cp en_20 rfl (fun w hs => dT (events_c _ _ _ _ ([⟨1, 0⟩, ⟨2, 0⟩] : List Evt) ([⟨1, 0⟩, ⟨2, 0⟩] : List Evt) w (hs.ownRo (.there .here)) (hs.ownRo .here) (by decide)) rfl) ?_
  refine Ops.q (q_not rfl) ?_
  refine Ops.to rfl ?_
  refine Cd.cond_f rfl ?_
  refine Cd.skipTo rfl ?_
  refine Cd.seq ?_
  refine Cd.sat ?_ (fun _ hs => (((((((hs.pull (.there (.there .here))).pull (.there .here)).drop.pull (.there .here)).drop.pull (.there .here)).drop.pull (.there .here)).drop.pull (.there .here)).drop.pull (.there .here)).drop)
  refine Cd.region ?_
  refine Ops.q (q_bld [.int .i64 0, .int .i64 0] pls_76 zc_76 rfl rfl) ?_
  refine Ops.q (q_bld [.int .i64 1, .int .i64 3] pls_76 zc_76 rfl rfl) ?_
  refine Ops.lit [.int .i64 0, .int .i64 0, .int .i64 1, .int .i64 3] el_73 zsb_76 rfl rfl ⟨by decide, by decide⟩ rfl ?_
  intro b104
  refine Ops.cl (α := (Option Addr × Nat) × (Option Addr × Nat)) (v := fun x => .tuple [.agg [.slice x.1.1 wNq.ns.length x.1.2, .int .i64 wNq.inp, .slice x.2.1 wNq.ss.length x.2.2].toArray, .int .i64 0].toArray) (B := fun x => [row x.1.1 x.1.2 116 8 wNq.ns.length (wNq.ns.flatMap ePrm), row x.2.1 x.2.2 126 4 wNq.ss.length (wNq.ss.flatMap eSyn)]) en_32 rfl (fun w hs => retR_ok (pattern_c 2 _ _ [⟨0, 0⟩, ⟨1, 3⟩] 0 w (hs.ownRo .here) (by decide)) kNq) ?_
  rintro ⟨⟨p105, pc106⟩, ⟨q107, qc108⟩⟩
  refine Ops.q (q_mv rfl) ?_
  refine Ops.q (q_ext rfl rfl) ?_
  refine Ops.q (q_ext rfl rfl) ?_
  refine Ops.stB [.slice p105 wNq.ns.length pc106, .int .i64 wNq.inp, .slice q107 wNq.ss.length qc108] [.slice p105 wNq.ns.length pc106, .int .i64 wNq.inp, .slice q107 wNq.ss.length qc108] sz_32 rfl rfl rfl (one rfl) (.there (.there (.there .here))) rfl rfl ?_
  refine Ops.q (q_asg rfl) ?_
  refine Ops.to rfl ?_
  refine Cd.seq ?_
  refine Cd.draw rfl (by kernel_rfl) (.cons (.there (.there (.there .here))) .nil) ?_
  intro F109 St110 hP111 hF112 hR113
  refine Dr.q (i := 0) hP111 rfl (by kernel_rfl) (q_ldBN [.slice p105 wNq.ns.length pc106, .int .i64 wNq.inp, .slice q107 wNq.ss.length qc108] isA_32 sz_32 rfl .here rfl) ?_
  refine Dr.q (i := 1) hP111 rfl (by kernel_rfl) (q_mv rfl) ?_
  refine Dr.e (i := 2) rfl (by kernel_rfl) ?_
  refine Ops.cp en_39 rfl (fun w hs => at_c 1 0 w) ?_
  refine Dr.back (fun _ hs => hF112 .here hs) ?_
  refine Dr.e (i := 3) rfl (by kernel_rfl) ?_
  refine Ops.cp en_39 rfl (fun w hs => at_c 4 1 w) ?_
  refine Dr.back (fun _ hs => hF112 .here hs) ?_
  refine Dr.e (i := 4) rfl (by kernel_rfl) ?_
  refine Ops.lit [.int .i64 1, .int .i64 0, .int .i64 4, .int .i64 1] el_27 zsb_88 rfl rfl ⟨by decide, by decide⟩ rfl ?_
  intro b114
  refine Dr.back (fun _ hs => hF112 (.there .here) hs) ?_
  refine Dr.e (i := 5) rfl (by kernel_rfl) ?_
  refine Ops.cl (α := Option Addr × Nat) (v := fun p => .slice p.1 1 p.2) (B := fun p => [row p.1 p.2 88 2 1 [.int .i64 17, .int .i64 0]]) en_46 rfl (fun w hs => runW (lawRun_c _ _ _ _ wNq.ns wNq.inp wNq.ss _ _ ([⟨1, 0⟩, ⟨4, 1⟩] : List Evt) 0 20 w (hs.ownRo (.there (.there .here))) (hs.ownRo (.there (.there (.there .here)))) (hs.ownRo .here) (by exact rowle_any hs .here)) kLq) ?_
  rintro ⟨ra115, rc116⟩
  refine Dr.back (fun _ hs => hF112 (.there (.there .here)) hs) ?_
  refine Dr.e (i := 6) rfl (by kernel_rfl) ?_
  refine Ops.cp en_39 rfl (fun w hs => at_c 17 0 w) ?_
  refine Dr.back (fun _ hs => hF112 (.there (.there .here)) hs) ?_
  refine Dr.e (i := 7) rfl (by kernel_rfl) ?_
  refine Ops.lit [.int .i64 17, .int .i64 0] el_27 zsb_88 rfl rfl ⟨by decide, by decide⟩ rfl ?_
  intro b117
  refine Dr.back (fun _ hs => hF112 (.there (.there (.there .here))) hs) ?_
  refine Dr.e (i := 8) rfl (by kernel_rfl) ?_
  refine Ops.cp en_20 rfl (fun w hs => dT (events_c _ _ _ _ ([⟨17, 0⟩] : List Evt) ([⟨17, 0⟩] : List Evt) w (hs.ownRo (.there .here)) (hs.ownRo .here) (by decide)) rfl) ?_
  refine Dr.back (fun _ hs => hF112 (.there (.there (.there .here))) hs) ?_
  refine Dr.tail 9 (by kernel_rfl) ?_
  refine Ops.sat ?_ (fun _ hs => hR113 (.there (.there (.there .here))) hs)
  refine Ops.q (q_asg rfl) ?_
  refine Ops.to rfl ?_
  refine Cd.rt (fn := Try.f13) [.bool true] (by with_reducible repeat (first | exact rq_here | apply rq_then | apply rq_block)) rfl ⟨rfl, trivial⟩ ?_
  intro w' hs'
  exact ⟨rfl, hs'.none⟩
end Go.Proofs.Ytilcdghliigngaa
namespace Go.Proofs.Ytilcdghliigngaa
open Go.RowKit Go.Proofs.YtilcdghliigngaaGl Go.Proofs.YtilcdghliigngaaPm
set_option linter.unusedVariables false
set_option linter.unusedSimpArgs false
end Go.Proofs.Ytilcdghliigngaa
namespace Go.Proofs.Ytilcdghliigngaa
open Go.RowKit Go.Proofs.YtilcdghliigngaaGl Go.Proofs.YtilcdghliigngaaPm
set_option linter.unusedVariables false
set_option linter.unusedSimpArgs false
end Go.Proofs.Ytilcdghliigngaa
namespace Go.Proofs.Ytilcdghliigngaa
open Go.RowKit Go.Proofs.YtilcdghliigngaaGl Go.Proofs.YtilcdghliigngaaPm
set_option linter.unusedVariables false
set_option linter.unusedSimpArgs false
end Go.Proofs.Ytilcdghliigngaa
namespace Go.Proofs.Ytilcdghliigngaa
open Go.RowKit Go.Proofs.YtilcdghliigngaaGl Go.Proofs.YtilcdghliigngaaPm
set_option linter.unusedVariables false
set_option linter.unusedSimpArgs false
def sumI {α : Type} (f : α → Int) : List α → Int
  | [] => 0
  | x :: xs => f x + sumI f xs
theorem sumI_app {α : Type} (f : α → Int) : ∀ (xs ys : List α), sumI f (xs ++ ys) = sumI f xs + sumI f ys
  | [], ys => by simp [sumI]
  | x :: xs, ys => by simp only [List.cons_append, sumI, sumI_app f xs ys]; omega
theorem sumI_congr {α : Type} {f g : α → Int} : ∀ {xs : List α}, (∀ x ∈ xs, f x = g x) → sumI f xs = sumI g xs
  | [], _ => rfl
  | x :: xs, h => by simp only [sumI, h x (.head _), sumI_congr (fun y hy => h y (.tail _ hy))]
theorem sumI_add {α : Type} (f g : α → Int) : ∀ (xs : List α), sumI (fun x => f x + g x) xs = sumI f xs + sumI g xs
  | [] => rfl
  | x :: xs => by simp only [sumI, sumI_add f g xs]; omega
theorem sumI_zero {α : Type} {f : α → Int} : ∀ {xs : List α}, (∀ x ∈ xs, f x = 0) → sumI f xs = 0
  | [], _ => rfl
  | x :: xs, h => by simp only [sumI, h x (.head _), sumI_zero (fun y hy => h y (.tail _ hy))]; rfl
theorem sumI_filt (g : Syn → Int) (k : Int) : ∀ (ss : List Syn), sumI g (filt ss k) = sumI (fun s => if s.src = k then g s else 0) ss
  | [] => rfl
  | s :: ss => by
    have ih := sumI_filt g k ss
    unfold filt at ih ⊢
    rw [List.filter_cons]
    by_cases h : s.src = k
    · simp only [h, BEq.rfl, if_true, sumI, ih]
    · have h2 : (s.src == k) = false := by simpa using h
      simp only [h2, Bool.false_eq_true, if_false, sumI, if_neg h, ih]; omega
theorem sumI_keys (g : Syn → Int) (ss : List Syn) : ∀ {keys : List Int}, keys.Nodup → sumI g (keys.flatMap (filt ss)) = sumI (fun s => if s.src ∈ keys then g s else 0) ss
  | [], _ => (sumI_zero (fun x _ => by simp)).symm
  | k :: ks, h => by
    obtain ⟨h1, h2⟩ := List.nodup_cons.1 h
    rw [List.flatMap_cons, sumI_app, sumI_keys g ss h2, sumI_filt, ← sumI_add]
    refine sumI_congr (fun s _ => ?_)
    by_cases e : s.src = k
    · subst e; simp [h1]
    · simp [e]
theorem metS_keys (ss : List Syn) (fire ids : List Int) : metS ss fire ids = (fire ++ ids.map (fun i => -1 - i)).flatMap (filt ss) := by
  unfold metS
  rw [List.flatMap_append, List.flatMap_map]
abbrev W64 (x : Int) : Int := IntKind.i64.wrap x
theorem W64_add (a b : Int) : W64 (W64 a + b) = W64 (a + b) := by
  simp only [W64, IntKind.wrap_i64]; omega
theorem W64_id {a : Int} (h : -4611686018427387904 ≤ a ∧ a ≤ 4611686018427387904) : W64 a = a := by
  simp only [W64, IntKind.wrap_i64]; omega
def rgc (q : List (List Int)) (j d : Nat) : Int := (((q[j]?).getD [])[d]?).getD 0
def Shp (q : List (List Int)) (n : Nat) : Prop := q.length = 16 ∧ ∀ (j : Nat) (r : List Int), q[j]? = some r → r.length = n
theorem modify_get {α : Type} (f : α → α) (xs : List α) (i j : Nat) : (xs.modify i f)[j]? = if i = j then (xs[j]?).map f else xs[j]? := by
  rw [List.getElem?_modify]
  split <;> simp_all
theorem addR_shp {q : List (List Int)} {n now : Nat} {s : Syn} (h : Shp q n) : Shp (addR now q s) n := by
  refine ⟨by unfold addR; rw [List.length_modify]; exact h.1, fun j r hr => ?_⟩
  unfold addR at hr
  rw [modify_get] at hr
  split at hr
  · obtain ⟨r', h1, h2⟩ := Option.map_eq_some_iff.1 hr
    subst h2; rw [List.length_modify]; exact h.2 j r' h1
  · exact h.2 j r hr
theorem addR_get {q : List (List Int)} {n now j d : Nat} {s : Syn} (h : Shp q n) (hj : j < 16) (hd : d < n) (hs : 0 ≤ s.dst) :
    rgc (addR now q s) j d = if (((now : Int) + s.dl) % 16 = (j : Int) ∧ s.dst = (d : Int)) then W64 (rgc q j d + s.wt) else rgc q j d := by
  obtain ⟨r, hr⟩ : ∃ r, q[j]? = some r := ⟨_, List.getElem?_eq_getElem (by rw [h.1]; exact hj)⟩
  have hl := h.2 j r hr
  obtain ⟨v, hv⟩ : ∃ v, r[d]? = some v := ⟨_, List.getElem?_eq_getElem (by omega)⟩
  unfold rgc addR
  rw [modify_get, hr]
  have e1 : ((((now : Int) + s.dl) % 16).toNat = j) ↔ ((now : Int) + s.dl) % 16 = (j : Int) := by omega
  have e2 : (s.dst.toNat = d) ↔ s.dst = (d : Int) := by omega
  by_cases c1 : ((now : Int) + s.dl) % 16 = (j : Int)
  · rw [if_pos (e1.2 c1)]
    simp only [Option.map_some, Option.getD_some, modify_get, hv]
    by_cases c2 : s.dst = (d : Int)
    · rw [if_pos (e2.2 c2), if_pos ⟨c1, c2⟩]; rfl
    · rw [if_neg (fun e => c2 (e2.1 e)), if_neg (fun e => c2 e.2)]; rfl
  · rw [if_neg (fun e => c1 (e1.1 e)), if_neg (fun e => c1 e.1)]
theorem fold_get {n now : Nat} : ∀ {l : List Syn} {q : List (List Int)}, Shp q n → (∀ s ∈ l, 0 ≤ s.dst) →
    Shp (l.foldl (addR now) q) n ∧ ∀ (j d : Nat) (y : Int), j < 16 → d < n → rgc q j d = W64 y →
      rgc (l.foldl (addR now) q) j d = W64 (y + sumI (fun s => if ((now : Int) + s.dl) % 16 = (j : Int) ∧ s.dst = (d : Int) then s.wt else 0) l)
  | [], q, h, _ => ⟨h, fun j d y _ _ hy => by simp only [List.foldl_nil, sumI, Int.add_zero]; exact hy⟩
  | s :: l, q, h, hs => by
    obtain ⟨h1, h2⟩ := fold_get (l := l) (addR_shp (now := now) (s := s) h) (fun t ht => hs t (.tail _ ht))
    refine ⟨h1, fun j d y hj hd hy => ?_⟩
    have hg := addR_get (now := now) h hj hd (hs s (.head _))
    rw [List.foldl_cons]
    by_cases c : ((now : Int) + s.dl) % 16 = (j : Int) ∧ s.dst = (d : Int)
    · rw [if_pos c, hy, W64_add] at hg
      rw [h2 j d _ hj hd hg, sumI, if_pos c]; congr 1; omega
    · rw [if_neg c, hy] at hg
      rw [h2 j d _ hj hd hg, sumI, if_neg c]; congr 1; omega
def srcF (F : Nat → Nat → Bool) (idl : Nat → List Int) (t : Nat) (s : Int) : Bool := if 0 ≤ s then F t s.toNat else decide (-1 - s ∈ idl t)
def dueY (ss : List Syn) (F : Nat → Nat → Bool) (idl : Nat → List Int) (k j d : Nat) : Int :=
  sumI (fun s => if s.dst = (d : Int) ∧ (j : Int) < s.dl ∧ s.dl ≤ (k : Int) + j ∧ srcF F idl ((k : Int) + j - s.dl).toNat s.src = true then s.wt else 0) ss
def inX (ss : List Syn) (F : Nat → Nat → Bool) (idl : Nat → List Int) (k d : Nat) : Int :=
  sumI (fun s => if s.dst = (d : Int) ∧ s.dl ≤ (k : Int) ∧ srcF F idl ((k : Int) - s.dl).toNat s.src = true then s.wt else 0) ss
def stepV (p : Prm) (v x : Int) : Int × Bool := if tickV p v x < p.th then (tickV p v x, false) else if p.rk = 1 then (tickV p v x - p.th, true) else (p.rs, true)
theorem stepV_bd {p : Prm} (hp : nCheck p = 0) (v x : Int) : wi (stepV p v x).1 p.fl 1048576 := by
  obtain ⟨h1, h2, h3, h4, h5, h6, h7, h8⟩ := nCheck_ok hp
  have hb := boundP_bd (leakP p v + p.bias + boundP x (-4194304) 4194304) (show p.fl ≤ 1048576 by unfold wi at h5; omega)
  unfold wi at *
  unfold stepV
  have e : tickV p v x = boundP (leakP p v + p.bias + boundP x (-4194304) 4194304) p.fl 1048576 := rfl
  rw [← e] at hb
  split
  · exact hb
  · split
    · rename_i c1 c2; dsimp only; omega
    · rename_i c1 c2; rw [if_neg c2, if_neg c2] at h8; dsimp only; omega
theorem tickP_eq {p : Prm} (hp : nCheck p = 0) (hr : p.rest = 0) {v x : Int} (hv : wi v p.fl 1048576) : tickP p ⟨v, 0⟩ x = (⟨(stepV p v x).1, 0⟩, (stepV p v x).2) := by
  have hn : nValid p ⟨v, 0⟩ = 0 := by
    unfold nValid
    rw [if_neg (by simpa using hp), if_pos ⟨hv, by unfold wi; rw [hr]; simp⟩]
  unfold tickP stepV
  rw [if_neg (by simpa using hn), if_neg (by simp)]
  split
  · rfl
  · split
    · simp [hr]
    · simp [hr]
theorem fireI_range {T : List (Stt × Bool)} {F : Nat → Bool} (h : ∀ (d : Nat) (t : Stt × Bool), T[d]? = some t → t.2 = F d) : ∀ k, k ≤ T.length → fireI 0 (T.take k) = ((List.range k).filter F).map (fun d : Nat => (d : Int))
  | 0, _ => rfl
  | k + 1, hk => by
    obtain ⟨t, ht⟩ : ∃ t, T[k]? = some t := ⟨_, List.getElem?_eq_getElem (by omega)⟩
    rw [fireI_take ht, fireI_range h k (by omega), List.range_succ, List.filter_append, List.map_append]
    congr 1
    rw [h k t ht]
    cases hF : F k <;> simp [hF]
def evF (idl : Nat → List Int) : Nat → Nat → List Evt
  | _, 0 => []
  | now, f + 1 => (idl now).map (fun i => (⟨(now : Int), i⟩ : Evt)) ++ evF idl (now + 1) f
theorem evF_ge (idl : Nat → List Int) : ∀ (f now : Nat) (e : Evt), e ∈ evF idl now f → (now : Int) ≤ e.tick
  | 0, now, e, h => by simp [evF] at h
  | f + 1, now, e, h => by
    rcases List.mem_append.1 h with h | h
    · obtain ⟨i, _, rfl⟩ := List.mem_map.1 h; exact Int.le_refl _
    · have := evF_ge idl f (now + 1) e h; omega
theorem while_app {α : Type} {p : α → Bool} : ∀ {A B : List α}, (∀ a ∈ A, p a = true) → (∀ b ∈ B, p b = false) → (A ++ B).takeWhile p = A ∧ (A ++ B).dropWhile p = B
  | [], [], _, _ => ⟨rfl, rfl⟩
  | [], b :: B, _, hB => by
    have := hB b (.head _)
    simp [List.takeWhile_cons, List.dropWhile_cons, this]
  | a :: A, B, hA, hB => by
    have h1 := hA a (.head _)
    obtain ⟨h2, h3⟩ := while_app (A := A) (B := B) (fun x hx => hA x (.tail _ hx)) hB
    simp [List.takeWhile_cons, List.dropWhile_cons, h1, h2, h3]
def outF (F : Nat → Nat → Bool) (n : Nat) (k : Nat) : List Evt := (List.range k).flatMap fun t => ((List.range n).filter (F t)).map fun d : Nat => (⟨(t : Int), (d : Int)⟩ : Evt)
structure SimI (ns : List Prm) (ss : List Syn) (F : Nat → Nat → Bool) (idl : Nat → List Int) (V : Nat → Nat → Int) (k : Nat) (sts : List Stt) (ring : List (List Int)) : Prop where
  shp : Shp ring ns.length
  sts : sts.length = ns.length ∧ ∀ (d : Nat) (s : Stt), sts[d]? = some s → s = ⟨V k d, 0⟩
  ring : ∀ (j d : Nat), j < 16 → d < ns.length → rgc ring ((k + j) % 16) d = W64 (dueY ss F idl k j d)
  bd : ∀ (d : Nat) (p : Prm), ns[d]? = some p → wi (V k d) p.fl 1048576
theorem dueY_next {ss : List Syn} {F : Nat → Nat → Bool} {idl : Nat → List Int} {k j d : Nat} (hj : j < 16) :
    dueY ss F idl (k + 1) j d = dueY ss F idl k (j + 1) d + sumI (fun s => if s.dl = (j : Int) + 1 ∧ s.dst = (d : Int) ∧ srcF F idl k s.src = true then s.wt else 0) ss := by
  unfold dueY
  rw [← sumI_add]
  refine sumI_congr (fun s _ => ?_)
  have e1 : ((k + 1 : Nat) : Int) + (j : Int) - s.dl = (k : Int) + ((j + 1 : Nat) : Int) - s.dl := by omega
  rw [e1]
  by_cases hd : s.dst = (d : Int)
  · by_cases hl : s.dl = (j : Int) + 1
    · have e2 : ((k : Int) + ((j + 1 : Nat) : Int) - s.dl).toNat = k := by omega
      rw [e2]
      by_cases hf : srcF F idl k s.src = true
      · rw [if_pos ⟨hd, by omega, by omega, hf⟩, if_neg (fun c => by omega), if_pos ⟨hl, hd, hf⟩]; omega
      · rw [if_neg (fun c => hf c.2.2.2), if_neg (fun c => hf c.2.2.2), if_neg (fun c => hf c.2.2)]; rfl
    · rw [if_neg (show ¬ (s.dl = (j : Int) + 1 ∧ s.dst = (d : Int) ∧ srcF F idl k s.src = true) from fun c => hl c.1)]
      by_cases hc : (j : Int) < s.dl ∧ s.dl ≤ ((k + 1 : Nat) : Int) + j ∧ srcF F idl ((k : Int) + ((j + 1 : Nat) : Int) - s.dl).toNat s.src = true
      · rw [if_pos ⟨hd, hc.1, hc.2.1, hc.2.2⟩, if_pos ⟨hd, by omega, by omega, hc.2.2⟩]; omega
      · rw [if_neg (fun c => hc c.2), if_neg (fun c => hc ⟨by omega, by omega, c.2.2.2⟩)]; rfl
  · rw [if_neg (fun c => hd c.1), if_neg (fun c => hd c.1), if_neg (fun c => hd c.2.1)]; rfl
theorem inX_due (ss : List Syn) (F : Nat → Nat → Bool) (idl : Nat → List Int) (k d : Nat) (h : ∀ s ∈ ss, 1 ≤ s.dl) : dueY ss F idl k 0 d = inX ss F idl k d := by
  unfold dueY inX
  refine sumI_congr (fun s hs => ?_)
  have := h s hs
  have e : (k : Int) + ((0 : Nat) : Int) - s.dl = (k : Int) - s.dl := by omega
  rw [e]
  by_cases hc : s.dst = (d : Int) ∧ s.dl ≤ (k : Int) ∧ srcF F idl ((k : Int) - s.dl).toNat s.src = true
  · rw [if_pos ⟨hc.1, by omega, by omega, hc.2.2⟩, if_pos hc]
  · rw [if_neg (fun c => hc ⟨c.1, by omega, c.2.2.2⟩), if_neg hc]
end Go.Proofs.Ytilcdghliigngaa
namespace Go.Proofs.Ytilcdghliigngaa
open Go.RowKit Go.Proofs.YtilcdghliigngaaGl Go.Proofs.YtilcdghliigngaaPm
set_option linter.unusedVariables false
set_option linter.unusedSimpArgs false
structure NetI (ns : List Prm) (ss : List Syn) (idl : Nat → List Int) : Prop where
  prm : ∀ p ∈ ns, nCheck p = 0 ∧ p.rest = 0
  syn : ∀ s ∈ ss, s.src < (ns.length : Int) ∧ 0 ≤ s.dst ∧ s.dst < (ns.length : Int) ∧ 1 ≤ s.dl ∧ s.dl ≤ 16
  ids : ∀ k, (idl k).Nodup ∧ ∀ i ∈ idl k, 0 ≤ i
theorem ofNat_inj : Function.Injective (fun d : Nat => (d : Int)) := fun a b h => Int.ofNat.inj h
theorem nodup_map {α β : Type} {f : α → β} (hf : Function.Injective f) : ∀ {xs : List α}, xs.Nodup → (xs.map f).Nodup
  | [], _ => by simp
  | x :: xs, h => by
    obtain ⟨h1, h2⟩ := List.nodup_cons.1 h
    rw [List.map_cons, List.nodup_cons]
    refine ⟨fun hm => ?_, nodup_map hf h2⟩
    obtain ⟨y, hy, e⟩ := List.mem_map.1 hm
    exact h1 (hf e ▸ hy)
theorem sim_step {ns : List Prm} {ss : List Syn} {F : Nat → Nat → Bool} {idl : Nat → List Int} {V : Nat → Nat → Int} {k : Nat} {sts : List Stt} {ring : List (List Int)} (hN : NetI ns ss idl) (h : SimI ns ss F idl V k sts ring)
    (hX : ∀ d, d < ns.length → -4611686018427387904 ≤ inX ss F idl k d ∧ inX ss F idl k d ≤ 4611686018427387904)
    (hV : ∀ (d : Nat) (p : Prm), ns[d]? = some p → stepV p (V k d) (inX ss F idl k d) = (V (k + 1) d, F k d)) :
    SimI ns ss F idl V (k + 1) (stepR ns ss k sts ring (idl k)).1 (stepR ns ss k sts ring (idl k)).2.1 ∧ (stepR ns ss k sts ring (idl k)).2.2 = ((List.range ns.length).filter (F k)).map (fun d : Nat => (d : Int)) := by
  obtain ⟨xs, hxs⟩ : ∃ xs, ring[k % 16]? = some xs := ⟨_, List.getElem?_eq_getElem (by rw [h.shp.1]; omega)⟩
  have hxl := h.shp.2 _ _ hxs
  have hin : ∀ d, d < ns.length → xs[d]? = some (inX ss F idl k d) := fun d hd => by
    have h1 := h.ring 0 d (by omega) hd
    rw [Nat.add_zero] at h1
    unfold rgc at h1
    rw [hxs] at h1
    obtain ⟨v, hv⟩ : ∃ v, xs[d]? = some v := ⟨_, List.getElem?_eq_getElem (by omega)⟩
    simp only [Option.getD_some, hv] at h1
    rw [hv, h1, inX_due _ _ _ _ _ (fun s hs => (hN.syn s hs).2.2.2.1), W64_id (hX d hd)]
  have hT : ∀ d, d < ns.length → (tickAll ns sts xs)[d]? = some (⟨V (k + 1) d, 0⟩, F k d) := fun d hd => by
    obtain ⟨p, hp⟩ : ∃ p, ns[d]? = some p := ⟨_, List.getElem?_eq_getElem hd⟩
    obtain ⟨s, hs⟩ : ∃ s, sts[d]? = some s := ⟨_, List.getElem?_eq_getElem (by rw [h.sts.1]; exact hd)⟩
    obtain rfl := h.sts.2 d s hs
    obtain ⟨h1, h2⟩ := hN.prm p (List.mem_iff_getElem?.2 ⟨d, hp⟩)
    rw [tickAll_get hp hs (hin d hd), tickP_eq h1 h2 (h.bd d p hp), hV d p hp]
  have hTl := tickAll_length h.sts.1 hxl
  have hfire : fireI 0 (tickAll ns sts xs) = ((List.range ns.length).filter (F k)).map (fun d : Nat => (d : Int)) := by
    have := fireI_range (T := tickAll ns sts xs) (F := F k) (fun d t ht => by
      have hd := (List.getElem?_eq_some_iff.1 ht).1
      rw [hT d (by omega)] at ht
      cases ht; rfl) ns.length (by omega)
    rwa [List.take_of_length_le (by omega)] at this
  have e1 : stepR ns ss k sts ring (idl k) = ((tickAll ns sts xs).map (·.1), (metS ss (fireI 0 (tickAll ns sts xs)) (idl k)).foldl (addR k) (ring.modify (k % 16) fun _ => List.replicate ns.length 0), fireI 0 (tickAll ns sts xs)) := by
    unfold stepR; rw [hxs]; rfl
  rw [e1]
  refine ⟨?_, hfire⟩
  have hq : Shp (ring.modify (k % 16) fun _ => List.replicate ns.length 0) ns.length := by
    refine ⟨by rw [List.length_modify]; exact h.shp.1, fun j r hr => ?_⟩
    rw [modify_get] at hr
    split at hr
    · obtain ⟨r', _, rfl⟩ := Option.map_eq_some_iff.1 hr; simp
    · exact h.shp.2 j r hr
  have hmem : ∀ s ∈ metS ss (fireI 0 (tickAll ns sts xs)) (idl k), s ∈ ss := fun s hs => by
    rw [metS_keys] at hs
    obtain ⟨_, _, h2⟩ := List.mem_flatMap.1 hs
    exact (List.mem_filter.1 h2).1
  obtain ⟨f1, f2⟩ := fold_get (now := k) hq (l := metS ss (fireI 0 (tickAll ns sts xs)) (idl k)) (fun s hs => (hN.syn s (hmem s hs)).2.1)
  have hnd : (fireI 0 (tickAll ns sts xs) ++ (idl k).map (fun i => -1 - i)).Nodup := by
    rw [hfire]
    refine List.nodup_append.2 ⟨nodup_map ofNat_inj (List.nodup_range.filter _), nodup_map (fun a b (e : -1 - a = -1 - b) => by omega) (hN.ids k).1, fun a ha b hb e => ?_⟩
    obtain ⟨d, _, rfl⟩ := List.mem_map.1 ha
    obtain ⟨i, hi, rfl⟩ := List.mem_map.1 hb
    have := (hN.ids k).2 i hi
    omega
  have hkey : ∀ s ∈ ss, (s.src ∈ fireI 0 (tickAll ns sts xs) ++ (idl k).map (fun i => -1 - i)) ↔ srcF F idl k s.src = true := fun s hs => by
    obtain ⟨g1, _⟩ := hN.syn s hs
    rw [List.mem_append, hfire]
    unfold srcF
    by_cases h0 : 0 ≤ s.src
    · rw [if_pos h0]
      constructor
      · rintro (hm | hm)
        · obtain ⟨d, hd, e⟩ := List.mem_map.1 hm
          obtain ⟨_, hF⟩ := List.mem_filter.1 hd
          rw [← e]; simpa using hF
        · obtain ⟨i, hi, e⟩ := List.mem_map.1 hm
          have := (hN.ids k).2 i hi
          omega
      · intro hF
        exact .inl (List.mem_map.2 ⟨s.src.toNat, List.mem_filter.2 ⟨List.mem_range.2 (by omega), hF⟩, by simp; omega⟩)
    · rw [if_neg h0, decide_eq_true_eq]
      constructor
      · rintro (hm | hm)
        · obtain ⟨d, _, e⟩ := List.mem_map.1 hm
          omega
        · obtain ⟨i, hi, e⟩ := List.mem_map.1 hm
          have : -1 - s.src = i := by omega
          rw [this]; exact hi
      · intro hi
        exact .inr (List.mem_map.2 ⟨_, hi, by omega⟩)
  refine ⟨f1, ⟨by rw [List.length_map]; exact hTl, fun d s hs => ?_⟩, fun j d hj hd => ?_, fun d p hp => ?_⟩
  · rw [List.getElem?_map] at hs
    obtain ⟨t, ht, rfl⟩ := Option.map_eq_some_iff.1 hs
    have hd := (List.getElem?_eq_some_iff.1 ht).1
    rw [hT d (by omega)] at ht
    cases ht; rfl
  · have hb : rgc (ring.modify (k % 16) fun _ => List.replicate ns.length 0) ((k + (j + 1)) % 16) d = W64 (dueY ss F idl k (j + 1) d) := by
      by_cases h16 : j = 15
      · subst h16
        have e2 : (k + (15 + 1)) % 16 = k % 16 := by omega
        have e3 : dueY ss F idl k (15 + 1) d = 0 := sumI_zero (fun s hs => by
          have := (hN.syn s hs).2.2.2.2
          rw [if_neg (fun c => by omega)])
        unfold rgc
        rw [e2, e3, modify_get, if_pos rfl, hxs]
        simp only [Option.map_some, Option.getD_some, List.getElem?_replicate, if_pos hd]
        rw [W64_id (by omega)]
      · have h1 := h.ring (j + 1) d (by omega) hd
        rw [← h1]
        unfold rgc
        rw [modify_get, if_neg (by omega)]
    have h2 := f2 ((k + (j + 1)) % 16) d _ (by omega) hd hb
    rw [show (k + 1 + j) % 16 = (k + (j + 1)) % 16 by omega, h2, dueY_next hj, metS_keys, sumI_keys _ _ hnd]
    congr 2
    refine sumI_congr (fun s hs => ?_)
    obtain ⟨_, _, _, g4, g5⟩ := hN.syn s hs
    have hk2 := hkey s hs
    by_cases c : s.src ∈ fireI 0 (tickAll ns sts xs) ++ (idl k).map (fun i => -1 - i)
    · rw [if_pos c]
      have hF := hk2.1 c
      by_cases c2 : s.dst = (d : Int)
      · by_cases c3 : s.dl = (j : Int) + 1
        · rw [if_pos ⟨by omega, c2⟩, if_pos ⟨c3, c2, hF⟩]
        · rw [if_neg (fun e => c3 (by omega)), if_neg (fun e => c3 e.1)]
      · rw [if_neg (fun e => c2 e.2), if_neg (fun e => c2 e.2.1)]
    · rw [if_neg c, if_neg (fun e => c (hk2.2 e.2.2))]
  · have h1 := (hN.prm p (List.mem_iff_getElem?.2 ⟨d, hp⟩)).1
    have := stepV_bd h1 (V k d) (inX ss F idl k d)
    rw [hV d p hp] at this
    exact this
theorem outF_next (F : Nat → Nat → Bool) (n k : Nat) : outF F n (k + 1) = outF F n k ++ ((List.range n).filter (F k)).map (fun d : Nat => (⟨(k : Int), (d : Int)⟩ : Evt)) := by
  unfold outF
  rw [List.range_succ, List.flatMap_append]; simp
theorem outF_len (F : Nat → Nat → Bool) (n : Nat) : ∀ k, (outF F n k).length ≤ k * n
  | 0 => by simp [outF]
  | k + 1 => by
    have ih := outF_len F n k
    rw [outF_next, List.length_append, List.length_map, Nat.succ_mul]
    have : ((List.range n).filter (F k)).length ≤ n := by
      have := List.length_filter_le (F k) (List.range n)
      rwa [List.length_range] at this
    omega
theorem sim_runP {ns : List Prm} {ss : List Syn} {F : Nat → Nat → Bool} {idl : Nat → List Int} {V : Nat → Nat → Int} {T : Nat} (hN : NetI ns ss idl)
    (hX : ∀ k d, k < T → d < ns.length → -4611686018427387904 ≤ inX ss F idl k d ∧ inX ss F idl k d ≤ 4611686018427387904)
    (hV : ∀ (k d : Nat) (p : Prm), k < T → ns[d]? = some p → stepV p (V k d) (inX ss F idl k d) = (V (k + 1) d, F k d)) (hT : T * ns.length ≤ 65536) :
    ∀ (f k : Nat) (sts : List Stt) (ring : List (List Int)), k + f = T → SimI ns ss F idl V k sts ring → runP ns ss f k sts ring (evF idl k f) (outF F ns.length k) = some (outF F ns.length (k + f))
  | 0, k, sts, ring, hk, h => rfl
  | f + 1, k, sts, ring, hk, h => by
    obtain ⟨h1, h2⟩ := sim_step hN h (fun d hd => hX k d (by omega) hd) (fun d p hp => hV k d p (by omega) hp)
    obtain ⟨w1, w2⟩ := while_app (p := fun e : Evt => e.tick == (k : Int)) (A := (idl k).map (fun i => (⟨(k : Int), i⟩ : Evt))) (B := evF idl (k + 1) f)
      (fun a ha => by obtain ⟨i, _, rfl⟩ := List.mem_map.1 ha; simp) (fun b hb => by have := evF_ge idl f (k + 1) b hb; simp; omega)
    have e1 : (((evF idl k (f + 1)).takeWhile (fun e => e.tick == (k : Int))).map (·.id)) = idl k := by
      rw [evF, w1, List.map_map]; exact List.map_id' (idl k)
    have e2 : (evF idl k (f + 1)).dropWhile (fun e => e.tick == (k : Int)) = evF idl (k + 1) f := by rw [evF, w2]
    have e3 : outF F ns.length k ++ (((List.range ns.length).filter (F k)).map (fun d : Nat => (d : Int))).map (fun i => (⟨(k : Int), i⟩ : Evt)) = outF F ns.length (k + 1) := by
      rw [outF_next, List.map_map]; rfl
    have hl := outF_len F ns.length (k + 1)
    have hle : (k + 1) * ns.length ≤ 65536 := Nat.le_trans (Nat.mul_le_mul_right _ (by omega)) hT
    unfold runP
    dsimp only
    rw [e1, e2, h2, e3, if_neg (by omega), sim_runP hN hX hV hT f (k + 1) _ _ (by omega) h1]
    rw [show k + 1 + f = k + (f + 1) by omega]
theorem sim_run {ns : List Prm} {ip : Int} {ss : List Syn} {F : Nat → Nat → Bool} {idl : Nat → List Int} {V : Nat → Nat → Int} {T : Nat} (hN : NetI ns ss idl) (hV0 : ∀ d, V 0 d = 0)
    (hX : ∀ k d, k < T → d < ns.length → -4611686018427387904 ≤ inX ss F idl k d ∧ inX ss F idl k d ≤ 4611686018427387904)
    (hV : ∀ (k d : Nat) (p : Prm), k < T → ns[d]? = some p → stepV p (V k d) (inX ss F idl k d) = (V (k + 1) d, F k d)) (hT : T * ns.length ≤ 65536) :
    runN ⟨ns, ip, ss⟩ (evF idl 0 T) T = some (outF F ns.length T) := by
  have h0 : SimI ns ss F idl V 0 (List.replicate ns.length ⟨0, 0⟩) (List.replicate 16 (List.replicate ns.length 0)) := by
    refine ⟨⟨by simp, fun j r hr => ?_⟩, ⟨by simp, fun d s hs => ?_⟩, fun j d hj hd => ?_, fun d p hp => ?_⟩
    · rw [List.getElem?_replicate] at hr
      split at hr
      · cases hr; simp
      · cases hr
    · rw [List.getElem?_replicate] at hs
      split at hs
      · cases hs; rw [hV0]
      · cases hs
    · have e : dueY ss F idl 0 j d = 0 := sumI_zero (fun s hs => by rw [if_neg (fun c => by omega)])
      unfold rgc
      rw [e, List.getElem?_replicate, if_pos (by omega)]
      simp only [Option.getD_some, List.getElem?_replicate, if_pos hd]
      rw [W64_id (by omega)]
    · rw [hV0]
      have := nCheck_ok (hN.prm p (List.mem_iff_getElem?.2 ⟨d, hp⟩)).1
      unfold wi at *
      omega
  have := sim_runP hN hX hV hT T 0 _ _ (by omega) h0
  rw [Nat.zero_add] at this
  exact this
theorem evF_ord {ip lim : Int} {idl : Nat → List Int} (hs : ∀ k, (idl k).Pairwise (· < ·)) (hr : ∀ k, ∀ i ∈ idl k, wi i 0 (ip - 1)) : ∀ (f now : Nat) (q : Option Evt), (now + f : Int) ≤ lim → (∀ e, q = some e → e.tick < (now : Int)) → ordE ip lim q (evF idl now f) = 0
  | 0, now, q, _, _ => by cases q <;> rfl
  | f + 1, now, q, hl, hq => by
    have key : ∀ (l : List Int) (q : Option Evt), l.Pairwise (· < ·) → (∀ i ∈ l, wi i 0 (ip - 1)) → (∀ e, q = some e → e.tick < (now : Int) ∨ e.tick = (now : Int) ∧ ∀ i ∈ l, e.id < i) →
        ordE ip lim q (l.map (fun i => (⟨(now : Int), i⟩ : Evt)) ++ evF idl (now + 1) f) = 0 := by
      intro l
      induction l with
      | nil =>
        intro q _ _ hq
        exact evF_ord hs hr f (now + 1) q (by omega) (fun e he => by rcases hq e he with h | h <;> omega)
      | cons i l ih =>
        intro q hp hb hq
        obtain ⟨h1, h2⟩ := List.pairwise_cons.1 hp
        have hbad : ¬ evBad ip lim ⟨(now : Int), i⟩ := by
          unfold evBad
          exact fun h => h ⟨by unfold wi; dsimp only; omega, hb i (.head _)⟩
        have hrec := ih (some ⟨(now : Int), i⟩) h2 (fun j hj => hb j (.tail _ hj)) (fun e he => by cases he; exact .inr ⟨rfl, h1⟩)
        rw [List.map_cons, List.cons_append]
        cases q with
        | none => rw [ordE, if_neg hbad]; exact hrec
        | some q0 =>
          have hnot : ¬ evNot q0 ⟨(now : Int), i⟩ := by
            unfold evNot
            rintro (h | ⟨h, h'⟩)
            · rcases hq q0 rfl with g | ⟨g, _⟩ <;> (dsimp only at h; omega)
            · dsimp only at h h'
              rcases hq q0 rfl with g | ⟨_, g⟩
              · omega
              · have := g i (.head _); omega
          rw [ordE, if_neg hbad, if_neg hnot]; exact hrec
    exact key (idl now) q (hs now) (hr now) (fun e he => .inl (hq e he))
end Go.Proofs.Ytilcdghliigngaa
namespace Go.Proofs.Ytilcdghliigngaa
open Go.RowKit Go.Proofs.YtilcdghliigngaaGl Go.Proofs.YtilcdghliigngaaPm
set_option linter.unusedVariables false
set_option linter.unusedSimpArgs false
theorem sumI_map {α β : Type} (f : β → Int) (g : α → β) : ∀ (xs : List α), sumI f (xs.map g) = sumI (fun x => f (g x)) xs
  | [] => rfl
  | x :: xs => by simp only [List.map_cons, sumI, sumI_map f g xs]
theorem sumI_fm {α β : Type} (f : β → Int) (g : α → List β) : ∀ (xs : List α), sumI f (xs.flatMap g) = sumI (fun x => sumI f (g x)) xs
  | [] => rfl
  | x :: xs => by rw [List.flatMap_cons, sumI_app, sumI_fm f g xs, sumI]
theorem sumI_range_one {f : Nat → Int} {d : Nat} (h : ∀ j, j ≠ d → f j = 0) : ∀ m, sumI f (List.range m) = if d < m then f d else 0
  | 0 => by simp [sumI]
  | m + 1 => by
    rw [List.range_succ, sumI_app, sumI_range_one h m]
    simp only [sumI]
    by_cases c : d < m
    · rw [if_pos c, if_pos (by omega), h m (by omega)]; omega
    · rw [if_neg c]
      by_cases e : m = d
      · subst e; rw [if_pos (by omega)]; omega
      · rw [if_neg (by omega), h m e]; omega
theorem firstE_all {α : Type} {f : α → Int} : ∀ {xs : List α}, (∀ x ∈ xs, f x = 0) → firstE f xs = 0
  | [], _ => rfl
  | x :: xs, h => by rw [firstE, if_pos (h x (.head _))]; exact firstE_all (fun y hy => h y (.tail _ hy))
theorem evF_app (idl : Nat → List Int) : ∀ (f now : Nat), evF idl now (f + 1) = evF idl now f ++ (idl (now + f)).map (fun i => (⟨((now + f : Nat) : Int), i⟩ : Evt))
  | 0, now => by simp [evF]
  | f + 1, now => by
    rw [evF, evF_app idl f (now + 1), evF, List.append_assoc, show now + 1 + f = now + (f + 1) by omega]
theorem evF_more {idl : Nat → List Int} {T : Nat} (h : ∀ t, T ≤ t → idl t = []) : ∀ f, evF idl 0 (T + f) = evF idl 0 T
  | 0 => rfl
  | f + 1 => by rw [← Nat.add_assoc, evF_app, evF_more h f, Nat.zero_add, h (T + f) (by omega)]; simp
section
variable (n : Nat) (tk : Nat → Nat)
variable {n tk}
end
end Go.Proofs.Ytilcdghliigngaa
namespace Go.Proofs.Ytilcdghliigngaa
open Go.RowKit Go.Proofs.YtilcdghliigngaaGl Go.Proofs.YtilcdghliigngaaPm
set_option linter.unusedVariables false
set_option linter.unusedSimpArgs false
section
variable (m n : Nat) (S : List (Int × Int)) (c : List Int)
variable {m n S c}
theorem sumI_nonneg {α : Type} {f : α → Int} : ∀ {xs : List α}, (∀ x ∈ xs, 0 ≤ f x) → 0 ≤ sumI f xs
  | [], _ => Int.le_refl _
  | x :: xs, h => by
    have h1 := h x (.head _)
    have h2 := sumI_nonneg (f := f) (xs := xs) (fun y hy => h y (.tail _ hy))
    simp only [sumI]; omega
theorem sumI_pos {α : Type} {f : α → Int} {x : α} : ∀ {xs : List α}, (∀ x ∈ xs, 0 ≤ f x) → x ∈ xs → 1 ≤ f x → 1 ≤ sumI f xs
  | [], _, hx, _ => by cases hx
  | y :: xs, h, hx, h1 => by
    have h2 := sumI_nonneg (f := f) (xs := xs) (fun y hy => h y (.tail _ hy))
    have h3 := h y (.head _)
    simp only [sumI]
    rcases List.mem_cons.1 hx with rfl | hx
    · omega
    · have := sumI_pos (fun y hy => h y (.tail _ hy)) hx h1; omega
end
end Go.Proofs.Ytilcdghliigngaa
namespace Go.Proofs.YtilcdghliigngaaGl
set_option linter.unusedVariables false
set_option linter.unusedSimpArgs false
open Go.RowKit
section
variable {P : Program} {r : Option Nat} {ops : Array Oper} {Q : Exit → Act → World → Prop} {w0 : World} {n : Nat} {D : List Deferred} {rest : List Oper} {L : Env} {A : List Atom}
end
end Go.Proofs.YtilcdghliigngaaGl
namespace Go.Proofs.Ytilcdghliigngaa
open Go.RowKit Go.Proofs.YtilcdghliigngaaGl Go.Proofs.YtilcdghliigngaaPm
set_option linter.unusedVariables false
set_option linter.unusedSimpArgs false
def LstO (m : Nat) (l : List Int) : Prop := (∀ i ∈ l, 0 ≤ i ∧ i < (m : Int)) ∧ l.Pairwise (· < ·) ∧ l.length ≤ m
theorem LstO.set {m : Nat} {l : List Int} (h : LstO m l) : setE (m : Int) l = 0 := by
  unfold setE
  rw [if_pos (fun x hx => by have := h.1 x hx; unfold wi; omega), if_pos (show l.Nodup from h.2.1.imp (fun h => by omega))]
theorem run_some_n (na : Option Addr) (nc : Nat) (sa : Option Addr) (sc : Nat) (ns : List Prm) (ip : Int) (ss : List Syn) (ea : Option Addr) (ec : Nat) (evs : List Evt) (n : Nat) (hn : evs.length = n) (t : Int) (w : World) (hN : RoL w na ePrm ns) (hS : RoL w sa eSyn ss) (hE : RoL w ea eEvt evs) (hec : n ≤ ec) (out : List Evt) (hp : preparedE ⟨ns, ip, ss⟩ evs t 10000 = 0) (hr : runN ⟨ns, ip, ss⟩ evs t.toNat = some out) : Calls Try.prog 36 [.agg [.slice na ns.length nc, .int .i64 ip, .slice sa ss.length sc].toArray, .slice ea n ec, .int .i64 t].toArray w fun e w' => ∃ p : Option Addr × Nat, e = .returned (.tuple [.slice p.1 out.length p.2, .int .i64 0].toArray) ∧ Sat w w' [row p.1 p.2 88 2 out.length (out.flatMap eEvt)] := by
  subst hn; exact run_some na nc sa sc ns ip ss ea ec evs t w hN hS hE hec out hp hr
theorem chk0R {vs : Array Value} {w : World} {N : NetP} (h : Calls Try.prog 35 vs w fun e w' => e = .returned (.int .i64 (netCheck N)) ∧ Sat w w' []) (hz : netCheck N = 0) : Calls Try.prog 35 vs w fun e w' => e = .returned (.int .i64 0) ∧ Sat w w' [] := by
  rwa [hz] at h
end Go.Proofs.Ytilcdghliigngaa
namespace Go.Proofs.Ytilcdghliigngaa
open Go.RowKit Go.Proofs.YtilcdghliigngaaGl Go.Proofs.YtilcdghliigngaaPm
set_option linter.unusedVariables false
set_option linter.unusedSimpArgs false
section
variable {n : Nat} {tk : Nat → Nat}
end
end Go.Proofs.Ytilcdghliigngaa
namespace Go.Proofs.Ytilcdghliigngaa
open Go.RowKit Go.Proofs.YtilcdghliigngaaGl Go.Proofs.YtilcdghliigngaaPm
set_option linter.unusedVariables false
set_option linter.unusedSimpArgs false
end Go.Proofs.Ytilcdghliigngaa
namespace Go.Proofs.Ytilcdghliigngaa
open Go.RowKit Go.Proofs.YtilcdghliigngaaGl Go.Proofs.YtilcdghliigngaaPm
set_option linter.unusedVariables false
set_option linter.unusedSimpArgs false
set_option linter.unusedSectionVars false
theorem stepV_gate {h v x : Int} (hh : 1 ≤ h ∧ h ≤ 1048576) (hx : 0 ≤ x ∧ x ≤ 1048576) : stepV (gateP h) v x = (if h ≤ x then 0 else x, decide (h ≤ x)) := by
  have e : tickV (gateP h) v x = x := by
    simp only [tickV, gateP, leakP, boundP]
    have h0 : v - (v * 256 : Int).tdiv 256 = 0 := by rw [Int.mul_tdiv_cancel v (by decide)]; omega
    simp only [show ¬ ((2 : Int) = 0) by decide, show ¬ ((2 : Int) = 1) by decide, if_false, h0]
    omega
  unfold stepV
  rw [e]
  by_cases c : h ≤ x
  · rw [if_neg (show ¬ x < (gateP h).th by show ¬ x < h; omega), if_neg (show ¬ (gateP h).rk = 1 by show ¬ (0 : Int) = 1; decide)]
    simp [c]; rfl
  · rw [if_pos (show x < (gateP h).th by show x < h; omega)]
    simp [c]
theorem sumI_le {α : Type} {f : α → Int} : ∀ {xs : List α}, (∀ x ∈ xs, f x ≤ 1) → sumI f xs ≤ (xs.length : Int)
  | [], _ => Int.le_refl _
  | x :: xs, h => by
    have h1 := h x (.head _)
    have h2 := sumI_le (f := f) (xs := xs) (fun y hy => h y (.tail _ hy))
    simp only [sumI, List.length_cons]; omega
theorem inX_one {ss : List Syn} {F : Nat → Nat → Bool} {idl : Nat → List Int} {k d : Nat} (hw : ∀ s ∈ ss, s.dst = (d : Int) → s.wt = 1) :
    0 ≤ inX ss F idl k d ∧ inX ss F idl k d ≤ (ss.length : Int) ∧ (1 ≤ inX ss F idl k d ↔ ∃ s ∈ ss, s.dst = (d : Int) ∧ s.dl ≤ (k : Int) ∧ srcF F idl ((k : Int) - s.dl).toNat s.src = true) := by
  have h01 : ∀ s ∈ ss, (0 : Int) ≤ (if s.dst = (d : Int) ∧ s.dl ≤ (k : Int) ∧ srcF F idl ((k : Int) - s.dl).toNat s.src = true then s.wt else 0) ∧ (if s.dst = (d : Int) ∧ s.dl ≤ (k : Int) ∧ srcF F idl ((k : Int) - s.dl).toNat s.src = true then s.wt else 0) ≤ 1 := fun s hs => by
    split
    · rename_i h; have := hw s hs h.1; omega
    · omega
  refine ⟨sumI_nonneg (fun s hs => (h01 s hs).1), sumI_le (fun s hs => (h01 s hs).2), ⟨fun h => ?_, fun ⟨s, hs, hc⟩ => ?_⟩⟩
  · refine Decidable.byContradiction fun hn => ?_
    have : inX ss F idl k d = 0 := sumI_zero (fun s hs => if_neg (fun hc => hn ⟨s, hs, hc⟩))
    omega
  · exact sumI_pos (fun s hs => (h01 s hs).1) hs (by rw [if_pos hc, hw s hs hc.1]; exact Int.le_refl _)
theorem sumI_at {f : Nat → Int} {d m : Nat} (hd : d < m) (h : ∀ j, j < m → j ≠ d → f j = 0) : sumI f (List.range m) = f d := by
  have e : sumI f (List.range m) = sumI (fun j => if j = d then f d else 0) (List.range m) := sumI_congr (fun j hj => by
    by_cases c : j = d
    · rw [if_pos c, c]
    · rw [if_neg c, h j (List.mem_range.1 hj) c])
  rw [e, sumI_range_one (d := d) (fun j hj => if_neg hj), if_pos hd, if_pos rfl]
theorem kq_inj {k q c q0 c0 : Nat} (hc : c < k) (hc0 : c0 < k) (e : k * q + c = k * q0 + c0) : q = q0 ∧ c = c0 := by
  have h1 : (k * q + c) / k = q := by rw [Nat.mul_add_div (by omega), Nat.div_eq_of_lt hc]; omega
  have h2 : (k * q0 + c0) / k = q0 := by rw [Nat.mul_add_div (by omega), Nat.div_eq_of_lt hc0]; omega
  have : q = q0 := by rw [← h1, ← h2, e]
  subst this
  exact ⟨rfl, by omega⟩
theorem kq_lt {s k q c : Nat} (hq : q < s) (hc : c < k) : k * q + c < s * k := by
  have : k * (q + 1) ≤ k * s := Nat.mul_le_mul_left k hq
  rw [Nat.mul_succ, Nat.mul_comm k s] at this; omega
theorem filt_none {N : Nat} {p : Nat → Bool} (h : ∀ d, d < N → ¬ p d = true) : (List.range N).filter p = [] := List.filter_eq_nil_iff.2 (fun d hd => h d (List.mem_range.1 hd))
theorem filt_one {a : Nat} {p : Nat → Bool} : ∀ {N : Nat}, a < N → (∀ d, d < N → (p d = true ↔ d = a)) → (List.range N).filter p = [a]
  | 0, h, _ => by omega
  | N + 1, h, hp => by
    rw [List.range_succ, List.filter_append]
    by_cases e : a = N
    · subst e
      rw [filt_none (fun d hd hc => by have := (hp d (by omega)).1 hc; omega)]
      simp [(hp a (by omega)).2 rfl]
    · rw [filt_one (N := N) (by omega) (fun d hd => hp d (by omega))]
      have : ¬ p N = true := fun hc => e ((hp N (by omega)).1 hc).symm
      simp [this]
def wantA (nx : List (List Int)) (st : Int) (ws : List Int) : Nat → Int
  | 0 => st
  | i + 1 => (nx.getD (wantA nx st ws i).toNat []).getD (ws.getD i 0).toNat 0
structure AutOK (nx : List (List Int)) (st : Int) (acc : List Bool) (ws : List Int) (k : Nat) : Prop where
  hs : 1 ≤ nx.length ∧ nx.length ≤ 32
  hk : 1 ≤ k ∧ k ≤ 16
  row : ∀ r ∈ nx, r.length = k
  val : ∀ r ∈ nx, ∀ x ∈ r, 0 ≤ x ∧ x < (nx.length : Int)
  st : 0 ≤ st ∧ st < (nx.length : Int)
  acc : acc.length = nx.length
  ws : ∀ x ∈ ws, 0 ≤ x ∧ x < (k : Int)
section
variable {nx : List (List Int)} {st : Int} {acc : List Bool} {ws : List Int} {k : Nat}
def autF (nx : List (List Int)) (st : Int) (acc : List Bool) (ws : List Int) (k t d : Nat) : Bool :=
  if d < nx.length then decide (t % 3 = 1 ∧ t / 3 ≤ ws.length ∧ wantA nx st ws (t / 3) = (d : Int))
  else if d < nx.length + nx.length * k then decide (t % 3 = 2 ∧ t / 3 < ws.length ∧ d = nx.length + (k * (wantA nx st ws (t / 3)).toNat + (ws.getD (t / 3) 0).toNat))
  else decide (t % 3 = 2 ∧ t / 3 ≤ ws.length ∧ acc.getD (wantA nx st ws (t / 3)).toNat false = true)
def idlA (ws : List Int) (k t : Nat) : List Int := (if t % 3 = 0 ∧ t / 3 < ws.length then [ws.getD (t / 3) 0] else []) ++ (if t = 0 then [(k : Int)] else [])
def autSs (nx : List (List Int)) (st : Int) (acc : List Bool) (k : Nat) : List Syn := ([⟨-1 - (k : Int), st, 1, 1⟩] ++ rowsTo nx.length k nx nx.length) ++ accTo nx.length k acc acc.length
def autN (nx : List (List Int)) (st : Int) (acc : List Bool) (k : Nat) : NetP := ⟨mNs nx.length k (nx.length + nx.length * k + 1), ((k + 1 : Nat) : Int), autSs nx st acc k⟩
namespace AutOK
variable (h : AutOK nx st acc ws k)
include h
theorem head : (nx.headD []).length = k := by
  cases nx with
  | nil => have := h.hs; simp at this
  | cons r nx => exact h.row r (.head _)
theorem rowAt {q : Nat} (hq : q < nx.length) : nx.getD q [] ∈ nx := by
  obtain ⟨r, hr⟩ : ∃ r, nx[q]? = some r := ⟨_, List.getElem?_eq_getElem hq⟩
  rw [getD_at hr]; exact List.mem_iff_getElem?.2 ⟨q, hr⟩
theorem rlen (q : Nat) : (nx.getD q []).length ≤ k ∧ (0 < (nx.getD q []).length → q < nx.length) := by
  by_cases hq : q < nx.length
  · exact ⟨Nat.le_of_eq (h.row _ (h.rowAt hq)), fun _ => hq⟩
  · have : nx.getD q [] = [] := by simp [List.getD, List.getElem?_eq_none (show nx.length ≤ q by omega)]
    rw [this]; exact ⟨Nat.zero_le _, fun h => by cases h⟩
theorem rval {q c : Nat} (hq : q < nx.length) (hc : c < k) : 0 ≤ (nx.getD q []).getD c 0 ∧ (nx.getD q []).getD c 0 < (nx.length : Int) := by
  have hm := h.rowAt hq
  have hl := h.row _ hm
  obtain ⟨x, hx⟩ : ∃ x, (nx.getD q [])[c]? = some x := ⟨_, List.getElem?_eq_getElem (by omega)⟩
  rw [getD_at hx]
  exact h.val _ hm x (List.mem_iff_getElem?.2 ⟨c, hx⟩)
theorem wsv (i : Nat) : 0 ≤ ws.getD i 0 ∧ ws.getD i 0 < (k : Int) := by
  by_cases hi : i < ws.length
  · obtain ⟨x, hx⟩ : ∃ x, ws[i]? = some x := ⟨_, List.getElem?_eq_getElem hi⟩
    rw [getD_at hx]; exact h.ws x (List.mem_iff_getElem?.2 ⟨i, hx⟩)
  · have : ws.getD i 0 = 0 := by simp [List.getD, List.getElem?_eq_none (show ws.length ≤ i by omega)]
    rw [this]; have := h.hk; omega
theorem want (i : Nat) : 0 ≤ wantA nx st ws i ∧ wantA nx st ws i < (nx.length : Int) := by
  induction i with
  | zero => exact h.st
  | succ i ih =>
    have := h.wsv i
    exact h.rval (by omega) (by omega)
theorem start_idl {t : Nat} : (k : Int) ∈ idlA ws k t ↔ t = 0 := by
  unfold idlA
  rw [List.mem_append]
  constructor
  · rintro (h1 | h1)
    · split at h1
      · have := List.mem_singleton.1 h1
        have := h.wsv (t / 3); omega
      · cases h1
    · split at h1
      · assumption
      · cases h1
  · intro h1; right; rw [if_pos h1]; exact List.mem_singleton.2 rfl
theorem sym_idl {t c : Nat} (hc : c < k) : (c : Int) ∈ idlA ws k t ↔ t % 3 = 0 ∧ t / 3 < ws.length ∧ (ws.getD (t / 3) 0).toNat = c := by
  have := h.wsv (t / 3)
  unfold idlA
  rw [List.mem_append]
  constructor
  · rintro (h1 | h1)
    · split at h1
      · rename_i h2
        have := List.mem_singleton.1 h1
        exact ⟨h2.1, h2.2, by omega⟩
      · cases h1
    · split at h1
      · have := List.mem_singleton.1 h1; omega
      · cases h1
  · rintro ⟨h1, h2, h3⟩; left; rw [if_pos ⟨h1, h2⟩]; exact List.mem_singleton.2 (by omega)
omit h in
theorem rows_mem {s k i : Nat} {nx : List (List Int)} {y : Syn} : y ∈ rowsTo s k nx i ↔ ∃ q c, q < i ∧ c < (nx.getD q []).length ∧ y ∈ cellS s k q c ((nx.getD q []).getD c 0) := by
  unfold rowsTo cellsTo
  constructor
  · intro hy
    obtain ⟨q, hq, h2⟩ := List.mem_flatMap.1 hy
    obtain ⟨c, hc, h3⟩ := List.mem_flatMap.1 h2
    exact ⟨q, c, List.mem_range.1 hq, List.mem_range.1 hc, h3⟩
  · rintro ⟨q, c, hq, hc, h3⟩
    exact List.mem_flatMap.2 ⟨q, List.mem_range.2 hq, List.mem_flatMap.2 ⟨c, List.mem_range.2 hc, h3⟩⟩
omit h in
theorem acc_mem {s k i : Nat} {y : Syn} : y ∈ accTo s k acc i ↔ ∃ q, q < i ∧ acc.getD q false = true ∧ y = ⟨(q : Int), ((s + s * k : Nat) : Int), 1, 1⟩ := by
  unfold accTo
  constructor
  · intro hy
    obtain ⟨q, hq, h2⟩ := List.mem_flatMap.1 hy
    unfold accS at h2
    split at h2
    · exact ⟨q, List.mem_range.1 hq, by assumption, List.mem_singleton.1 h2⟩
    · cases h2
  · rintro ⟨q, hq, hc, rfl⟩
    refine List.mem_flatMap.2 ⟨q, List.mem_range.2 hq, ?_⟩
    unfold accS; rw [if_pos hc]; exact List.mem_singleton.2 rfl
omit h in
theorem ss_mem {y : Syn} : y ∈ autSs nx st acc k ↔ y = ⟨-1 - (k : Int), st, 1, 1⟩ ∨ (∃ q c, q < nx.length ∧ c < (nx.getD q []).length ∧ (y = ⟨(q : Int), ((nx.length + k * q + c : Nat) : Int), 1, 1⟩ ∨ y = ⟨-1 - (c : Int), ((nx.length + k * q + c : Nat) : Int), 1, 2⟩ ∨ y = ⟨((nx.length + k * q + c : Nat) : Int), (nx.getD q []).getD c 0, 1, 2⟩)) ∨ ∃ q, q < acc.length ∧ acc.getD q false = true ∧ y = ⟨(q : Int), ((nx.length + nx.length * k : Nat) : Int), 1, 1⟩ := by
  unfold autSs
  rw [List.mem_append, List.mem_append, List.mem_singleton, rows_mem, acc_mem, or_assoc]
  simp only [cellS, List.mem_cons, List.not_mem_nil, or_false]
theorem wt1 {y : Syn} (hy : y ∈ autSs nx st acc k) : y.wt = 1 := by
  rcases ss_mem.1 hy with rfl | ⟨q, c, _, _, rfl | rfl | rfl⟩ | ⟨q, _, _, rfl⟩ <;> rfl
theorem ss_len : (autSs nx st acc k).length ≤ 1600 := by
  unfold autSs
  have h1 := h.hs; have h2 := h.hk
  have h3 : nx.length * (k * 3) ≤ 32 * (16 * 3) := Nat.mul_le_mul h1.2 (Nat.mul_le_mul_right 3 h2.2)
  have h4 : (accTo nx.length k acc acc.length).length ≤ acc.length := by
    unfold accTo
    rw [List.length_flatMap]
    have : ∀ n : Nat, ((List.range n).map (fun q => (accS nx.length k acc q).length)).sum ≤ n := fun n => by
      induction n with
      | zero => simp
      | succ n ih =>
        rw [List.range_succ, List.map_append, List.sum_append]
        have : (accS nx.length k acc n).length ≤ 1 := by unfold accS; split <;> simp
        simp only [List.map_cons, List.map_nil, List.sum_cons, List.sum_nil]; omega
    exact this _
  have h5 := h.acc
  rw [List.length_append, List.length_append, rowsTo_len h.row (Nat.le_refl _)]
  simp only [List.length_cons, List.length_nil]
  omega
omit h in
theorem src_in (F : Nat → Nat → Bool) (idl : Nat → List Int) (t c : Nat) : srcF F idl t (-1 - (c : Int)) = decide ((c : Int) ∈ idl t) := by
  unfold srcF
  rw [if_neg (by omega), show -1 - (-1 - (c : Int)) = (c : Int) by omega]
omit h in
theorem src_of (F : Nat → Nat → Bool) (idl : Nat → List Int) (t d : Nat) : srcF F idl t (d : Int) = F t d := by
  unfold srcF
  rw [if_pos (by omega), Int.toNat_natCast]
theorem at_state {t d : Nat} (hd : d < nx.length) : 1 ≤ inX (autSs nx st acc k) (autF nx st acc ws k) (idlA ws k) t d ↔ autF nx st acc ws k t d = true := by
  rw [(inX_one (fun s hs _ => h.wt1 hs)).2.2]
  have eF : autF nx st acc ws k t d = decide (t % 3 = 1 ∧ t / 3 ≤ ws.length ∧ wantA nx st ws (t / 3) = (d : Int)) := by unfold autF; rw [if_pos hd]
  rw [eF, decide_eq_true_eq]
  have hst := h.st
  constructor
  · rintro ⟨y, hy, h1, h2, h3⟩
    rcases ss_mem.1 hy with rfl | ⟨q, c, hq, hc, rfl | rfl | rfl⟩ | ⟨q, _, _, rfl⟩
    · dsimp only at h1 h2 h3
      rw [src_in, decide_eq_true_eq, h.start_idl] at h3
      have e : t = 1 := by omega
      subst e
      exact ⟨rfl, Nat.zero_le _, h1⟩
    · dsimp only at h1; omega
    · dsimp only at h1; omega
    · dsimp only at h1 h2 h3
      have hck : c < k := Nat.lt_of_lt_of_le hc (h.rlen q).1
      have hlt := kq_lt hq hck
      rw [src_of] at h3
      unfold autF at h3
      rw [if_neg (by omega), if_pos (by omega), decide_eq_true_eq] at h3
      have e2 : ((t : Int) - 2).toNat = t - 2 := by omega
      rw [e2] at h3
      obtain ⟨g1, g2, g3⟩ := h3
      have hw := h.wsv ((t - 2) / 3)
      obtain ⟨e3, e4⟩ := kq_inj hck (by omega) (show k * q + c = k * (wantA nx st ws ((t - 2) / 3)).toNat + (ws.getD ((t - 2) / 3) 0).toNat by omega)
      have e5 : t / 3 = (t - 2) / 3 + 1 := by omega
      refine ⟨by omega, by omega, ?_⟩
      rw [e5, wantA, ← e3, ← e4]; exact h1
    · dsimp only at h1; omega
  · rintro ⟨h1, h2, h3⟩
    by_cases h0 : t / 3 = 0
    · have e : t = 1 := by omega
      subst e
      refine ⟨_, ss_mem.2 (.inl rfl), h3, Int.le_refl _, ?_⟩
      dsimp only
      rw [src_in, decide_eq_true_eq, h.start_idl]; rfl
    · obtain ⟨i, hi⟩ : ∃ i, t / 3 = i + 1 := ⟨t / 3 - 1, by omega⟩
      have hw := h.want i; have hv := h.wsv i
      rw [hi, wantA] at h3
      have hq : (wantA nx st ws i).toNat < nx.length := by omega
      have hl := h.row _ (h.rowAt hq)
      have hlt := kq_lt (c := (ws.getD i 0).toNat) (k := k) hq (by omega)
      refine ⟨_, ss_mem.2 (.inr (.inl ⟨(wantA nx st ws i).toNat, (ws.getD i 0).toNat, hq, by omega, .inr (.inr rfl)⟩)), h3, by dsimp only; omega, ?_⟩
      dsimp only
      rw [src_of]
      unfold autF
      rw [if_neg (by omega), if_pos (by omega), decide_eq_true_eq]
      have e2 : ((t : Int) - 2).toNat = t - 2 := by omega
      have e3 : (t - 2) / 3 = i := by omega
      rw [e2, e3]
      exact ⟨by omega, by omega, by omega⟩
theorem at_trans {t q c : Nat} (hq : q < nx.length) (hc : c < k) : inX (autSs nx st acc k) (autF nx st acc ws k) (idlA ws k) t (nx.length + k * q + c) = (if 1 ≤ t ∧ autF nx st acc ws k (t - 1) q = true then 1 else 0) + (if 2 ≤ t ∧ (c : Int) ∈ idlA ws k (t - 2) then 1 else 0) := by
  have hst := h.st
  have hlt := kq_lt hq hc
  unfold inX autSs
  rw [sumI_app, sumI_app]
  have eA : ∀ f : Syn → Int, (∀ y ∈ accTo nx.length k acc acc.length, f y = 0) → sumI f (accTo nx.length k acc acc.length) = 0 := fun f hf => sumI_zero hf
  rw [eA _ (fun y hy => by
    obtain ⟨q', _, _, rfl⟩ := acc_mem.1 hy
    exact if_neg (fun e => by have := e.1; dsimp only at this; omega))]
  have eS : ∀ f : Syn → Int, f ⟨-1 - (k : Int), st, 1, 1⟩ = 0 → sumI f [⟨-1 - (k : Int), st, 1, 1⟩] = 0 := fun f hf => by simp only [sumI, hf]; rfl
  rw [eS _ (if_neg (fun e => by have := e.1; dsimp only at this; omega))]
  unfold rowsTo
  have hne : ∀ q' c', q' < nx.length → c' < k → (q' ≠ q ∨ c' ≠ c) → ∀ y ∈ cellS nx.length k q' c' ((nx.getD q' []).getD c' 0), ¬ y.dst = ((nx.length + k * q + c : Nat) : Int) := fun q' c' h1 h2 h3 y hy e => by
    have hv := h.rval h1 h2
    have : ¬ (k * q' + c' = k * q + c) := fun e' => by have := kq_inj h2 hc e'; omega
    simp only [cellS, List.mem_cons, List.not_mem_nil, or_false] at hy
    rcases hy with rfl | rfl | rfl <;> (dsimp only at e; omega)
  rw [sumI_fm, sumI_at hq]
  · unfold cellsTo
    rw [sumI_fm, sumI_at (d := c) (by rw [h.row _ (h.rowAt hq)]; exact hc)]
    · simp only [cellS, sumI]
      have hv := h.rval hq hc
      rw [if_neg (show ¬ ((nx.getD q []).getD c 0 = ((nx.length + k * q + c : Nat) : Int) ∧ _) from fun e => by have := e.1; omega)]
      simp only [true_and]
      rw [src_in]
      have e1 : ((t : Int) - 1).toNat = t - 1 := by omega
      have e2 : ((t : Int) - 2).toNat = t - 2 := by omega
      rw [src_of, e1, e2]
      have a1 : ((1 : Int) ≤ (t : Int)) ↔ 1 ≤ t := by omega
      have a2 : ((2 : Int) ≤ (t : Int)) ↔ 2 ≤ t := by omega
      simp only [a1, a2, decide_eq_true_eq]
      omega
    · intro c' hc' hn
      exact sumI_zero (fun y hy => if_neg (fun e => hne q c' hq (Nat.lt_of_lt_of_le hc' (h.rlen q).1) (.inr hn) y hy e.1))
  · intro q' hq' hn
    unfold cellsTo
    rw [sumI_fm]
    exact sumI_zero (fun c' hc' => sumI_zero (fun y hy => if_neg (fun e => hne q' c' hq' (Nat.lt_of_lt_of_le (List.mem_range.1 hc') (h.rlen q').1) (.inl hn) y hy e.1)))
theorem at_trans2 {t q c : Nat} (hq : q < nx.length) (hc : c < k) : 2 ≤ inX (autSs nx st acc k) (autF nx st acc ws k) (idlA ws k) t (nx.length + k * q + c) ↔ autF nx st acc ws k t (nx.length + k * q + c) = true := by
  have hlt := kq_lt hq hc
  have eF : autF nx st acc ws k t (nx.length + k * q + c) = decide (t % 3 = 2 ∧ t / 3 < ws.length ∧ nx.length + k * q + c = nx.length + (k * (wantA nx st ws (t / 3)).toNat + (ws.getD (t / 3) 0).toNat)) := by unfold autF; rw [if_neg (by omega), if_pos (by omega)]
  have eQ : autF nx st acc ws k (t - 1) q = decide ((t - 1) % 3 = 1 ∧ (t - 1) / 3 ≤ ws.length ∧ wantA nx st ws ((t - 1) / 3) = (q : Int)) := by unfold autF; rw [if_pos hq]
  rw [h.at_trans hq hc, eF, decide_eq_true_eq]
  simp only [eQ, decide_eq_true_eq, h.sym_idl hc]
  have hw := h.want (t / 3); have hv := h.wsv (t / 3)
  constructor
  · intro h2
    by_cases c1 : 1 ≤ t ∧ (t - 1) % 3 = 1 ∧ (t - 1) / 3 ≤ ws.length ∧ wantA nx st ws ((t - 1) / 3) = (q : Int)
    · by_cases c2 : 2 ≤ t ∧ (t - 2) % 3 = 0 ∧ (t - 2) / 3 < ws.length ∧ (ws.getD ((t - 2) / 3) 0).toNat = c
      · obtain ⟨b1, b2, b3, b4⟩ := c1
        obtain ⟨d1, d2, d3, d4⟩ := c2
        have e1 : (t - 1) / 3 = t / 3 := by omega
        have e2 : (t - 2) / 3 = t / 3 := by omega
        rw [e1] at b4; rw [e2] at d3 d4
        refine ⟨by omega, d3, ?_⟩
        rw [b4, d4, Int.toNat_natCast]; omega
      · rw [if_neg c2] at h2; split at h2 <;> omega
    · rw [if_neg c1] at h2; split at h2 <;> omega
  · rintro ⟨h1, h2, h3⟩
    obtain ⟨e3, e4⟩ := kq_inj hc (by omega) (show k * q + c = k * (wantA nx st ws (t / 3)).toNat + (ws.getD (t / 3) 0).toNat by omega)
    have e1 : (t - 1) / 3 = t / 3 := by omega
    have e2 : (t - 2) / 3 = t / 3 := by omega
    rw [e1, e2, if_pos ⟨by omega, by omega, by omega, by omega⟩, if_pos ⟨by omega, by omega, h2, e4.symm⟩]; decide
theorem at_acc {t : Nat} : 1 ≤ inX (autSs nx st acc k) (autF nx st acc ws k) (idlA ws k) t (nx.length + nx.length * k) ↔ autF nx st acc ws k t (nx.length + nx.length * k) = true := by
  rw [(inX_one (fun s hs _ => h.wt1 hs)).2.2]
  have eF : autF nx st acc ws k t (nx.length + nx.length * k) = decide (t % 3 = 2 ∧ t / 3 ≤ ws.length ∧ acc.getD (wantA nx st ws (t / 3)).toNat false = true) := by unfold autF; rw [if_neg (by omega), if_neg (by omega)]
  have eQ : ∀ q, q < nx.length → autF nx st acc ws k (t - 1) q = decide ((t - 1) % 3 = 1 ∧ (t - 1) / 3 ≤ ws.length ∧ wantA nx st ws ((t - 1) / 3) = (q : Int)) := fun q hq => by unfold autF; rw [if_pos hq]
  have e1 : ((t : Int) - 1).toNat = t - 1 := by omega
  rw [eF, decide_eq_true_eq]
  have hst := h.st; have ha := h.acc
  constructor
  · rintro ⟨y, hy, h1, h2, h3⟩
    rcases ss_mem.1 hy with rfl | ⟨q, c, hq, hc, rfl | rfl | rfl⟩ | ⟨q, hq, hc, rfl⟩
    · dsimp only at h1; omega
    · have := kq_lt hq (Nat.lt_of_lt_of_le hc (h.rlen q).1); dsimp only at h1; omega
    · have := kq_lt hq (Nat.lt_of_lt_of_le hc (h.rlen q).1); dsimp only at h1; omega
    · have := h.rval hq (Nat.lt_of_lt_of_le hc (h.rlen q).1); dsimp only at h1; omega
    · dsimp only at h1 h2 h3
      rw [src_of, e1, eQ q (by omega), decide_eq_true_eq] at h3
      obtain ⟨g1, g2, g3⟩ := h3
      have e2 : (t - 1) / 3 = t / 3 := by omega
      rw [e2] at g2 g3
      exact ⟨by omega, g2, by rw [g3, Int.toNat_natCast]; exact hc⟩
  · rintro ⟨h1, h2, h3⟩
    have hw := h.want (t / 3)
    refine ⟨_, ss_mem.2 (.inr (.inr ⟨(wantA nx st ws (t / 3)).toNat, by omega, h3, rfl⟩)), rfl, by dsimp only; omega, ?_⟩
    dsimp only
    have e2 : (t - 1) / 3 = t / 3 := by omega
    rw [src_of, e1, eQ _ (by omega), decide_eq_true_eq, e2]
    exact ⟨by omega, h2, by omega⟩
end AutOK
end
end Go.Proofs.Ytilcdghliigngaa
