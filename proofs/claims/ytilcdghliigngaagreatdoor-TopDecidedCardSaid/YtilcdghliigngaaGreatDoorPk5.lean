/- Part of a claim: the program logic, the contracts of the functions, their models. No condition. -/
import Derived.WalkKit
import Derived.OwnWalkIn
import Derived.TacticsInMore
import Derived.OrdersIn
import Derived.RangeFuncLeaves
import Derived.RangeFuncNested
import Derived.Maps.AppendAt
import Derived.Shelf.Abstract
import Derived.MapKept
import Derived.Laws.StructEq
import Derived.Laws.OwnMore
import Derived.RangeFuncRecord
import Derived.Lib.SliceRun
import Derived.Lib.AppendZeros
import Derived.Lib.AppendZerosOnto
import Derived.Lib.Overlaps
import Derived.Laws.Externs
import Derived.Maps.RangeRun
import Derived.Lib.AppendStr
import Derived.Laws.Pointers
import Derived.Laws.Small
import Derived.Laws.IdiomStrings
import Derived.Laws.Slices
import Derived.Test.YtilcdghliigngaaGreatDoorProg
import Derived.Test.YtilcdghliigngaaGreatDoorPk4
namespace Go.Proofs.YtilcdghliigngaaGreatDoor
open Go.RowKit Go.Proofs.YtilcdghliigngaaGreatDoorGl Go.Proofs.YtilcdghliigngaaGreatDoorPm
set_option linter.unusedVariables false
set_option linter.unusedSimpArgs false
theorem sK_9 : sK Tryz.prog 9 = true := by kernel_rfl
section
variable {P : Program} {r : Option Nat} {ops : Array Oper} {Q : Exit → Act → World → Prop} {w0 : World} {n : Nat} {D : List Deferred} {rest : List Oper} {L : Env} {A : List Atom}
variable {t : Nat} {ty : TypeId} {pos : String} {af : Array Edge} {g : Option (Nat × Bool)}
theorem Ops.ixS {T : TypeId} {x y : Operand} {s : ByteArray} {k : Nat} {kd : IntKind} (hT : P.underlying T = some .string) (hx : ev L x = some (.string s)) (hy : ev L y = some (.int kd (k : Int))) (hk : k < s.size)
    (h : ∀ c : Int, 0 ≤ c ∧ c ≤ 255 → Ops P r ops Q w0 n D rest ((t, .int .u8 c) :: L) A)
    (hg : gd ops L ⟨some t, .index T x y, ty, pos, af, g⟩ = some true := by rfl) (ht : Nat.blt t n = true := by rfl) : Ops P r ops Q w0 n D (⟨some t, .index T x y, ty, pos, af, g⟩ :: rest) L A :=
  Ops.q (q_ixS hT hx hy hk) (h _ ⟨by omega, by have := UInt8.toNat_lt (s[k]'hk); omega⟩) hg ht
end
theorem isNaN_c (x : Int) (w : World) : Calls Tryz.prog 139 [.int .i64 x].toArray w fun e w' => e = .returned (.bool false) ∧ Sat w w' [] := by
  refine fstart Tryz.func139 rfl rfl (Sat.nil w) ?_
  refine Cd.seq ?_
  refine Cd.region ?_
  refine Ops.q (q_asg rfl) ?_
  refine Ops.to rfl ?_
  refine Cd.seq ?_
  refine Cd.region ?_
  refine Ops.q (q_mv rfl) ?_
  refine Ops.q (q_mv rfl) ?_
  refine Ops.q (q_cmp rfl rfl (c_nne rfl)) ?_
  refine Ops.q (q_asg rfl) ?_
  refine Ops.to rfl ?_
  refine Cd.rt (fn := Tryz.f139) [.bool false] (by with_reducible repeat (first | exact rq_here | apply rq_then | apply rq_block)) rfl ⟨rfl, trivial⟩ ?_
  intro w' hs'
  exact ⟨rfl, hs'.none⟩
theorem less_c (x y : Int) (w : World) : Calls Tryz.prog 130 [.int .i64 x, .int .i64 y].toArray w fun e w' => e = .returned (.bool (decide (x < y))) ∧ Sat w w' [] := by
  refine fstart Tryz.func130 rfl rfl (Sat.nil w) ?_
  refine Cd.seq ?_
  refine Cd.region ?_
  refine Ops.q (q_asg rfl) ?_
  refine Ops.to rfl ?_
  refine Cd.seq ?_
  refine Cd.region ?_
  refine Ops.q (q_mv rfl) ?_
  refine Ops.cp en_139 rfl (fun w hs => isNaN_c _ w) ?_
  refine Ops.q (q_mv rfl) ?_
  refine Ops.sk ?_
  refine Ops.sk ?_
  refine Ops.sk ?_
  refine Ops.q (q_pickF rfl rfl) ?_
  refine Ops.q (q_mv rfl) ?_
  refine Ops.q (q_mv rfl) ?_
  refine Ops.q (q_mv rfl) ?_
  refine Ops.q (q_cmp rfl rfl rfl) ?_
  refine Ops.q (q_pickF rfl rfl) ?_
  refine Ops.q (q_asg rfl) ?_
  refine Ops.to rfl ?_
  refine Cd.rt (fn := Tryz.f130) [.bool (decide (x < y))] (by with_reducible repeat (first | exact rq_here | apply rq_then | apply rq_block)) rfl ⟨rfl, trivial⟩ ?_
  intro w' hs'
  exact ⟨rfl, hs'.none⟩
theorem isort_c (a : Option Addr) (c : Nat) (xs : List Int) (w0 w : World) (F : List Atom) (hp : xs.Pairwise (· < ·)) (hl : xs.length ≤ 12) (hs : Sat w0 w (row a c 3 1 xs.length (xs.flatMap eInt) :: F)) : Calls Tryz.prog 124 [.slice a xs.length c, .int .i64 0, .int .i64 (xs.length : Int)].toArray w fun e w' => e = .returned (.tuple #[]) ∧ Sat w0 w' (row a c 3 1 xs.length (xs.flatMap eInt) :: F) := by
  refine fstart Tryz.func124 rfl rfl hs ?_
  refine Cd.seq ?_
  refine Cd.region ?_
  refine Ops.q (q_mv rfl) ?_
  refine Ops.q (q_ar (v := 1) rfl rfl (a_add (by decide))) ?_
  refine Ops.q (q_asg rfl) ?_
  refine Ops.to rfl ?_
  refine Cd.block ?_
  refine Cd.lp (σ := Nat) (fun i => 1 ≤ i) (fun i => [(0, .slice a xs.length c), (1, .int .i64 0), (2, .int .i64 (xs.length : Int)), (6, .int .i64 (i : Int))]) (fun i => row a c 3 1 xs.length (xs.flatMap eInt) :: F) (fun i => xs.length - i) 1 (Nat.le_refl _) ⟨rfl, rfl, rfl, rfl, trivial⟩ (fun _ hs => hs) ?_
  intro i hI
  refine Cd.seq ?_
  refine Cd.seq ?_
  refine Cd.region ?_
  refine Ops.q (q_mv rfl) ?_
  refine Ops.q (q_mv rfl) ?_
  by_cases hlt : (i : Int) < (xs.length : Int)
  · refine Ops.q (q_cmp rfl rfl (c_lt hlt)) ?_
    obtain ⟨x, hx⟩ : ∃ x, xs[i]? = some x := ⟨_, List.getElem?_eq_getElem (by omega)⟩
    obtain ⟨y, hy⟩ : ∃ y, xs[i - 1]? = some y := ⟨_, List.getElem?_eq_getElem (by omega)⟩
    have hyx : y < x := by have h8 := List.pairwise_iff_getElem.1 hp (i - 1) i (by omega) (by omega) (by omega); rw [(List.getElem?_eq_some_iff.1 hy).2, (List.getElem?_eq_some_iff.1 hx).2] at h8; exact h8
    refine Ops.rowpos .here (by omega) ?_
    rintro b rfl
    refine Ops.to rfl ?_
    refine Cd.cond_t rfl ?_
    refine Cd.skipTo rfl ?_
    refine Cd.seq ?_
    refine Cd.block ?_
    refine Cd.seq ?_
    refine Cd.region ?_
    refine Ops.q (q_mv rfl) ?_
    refine Ops.q (q_asg rfl) ?_
    refine Ops.to rfl ?_
    refine Cd.block ?_
    refine Cd.lp (σ := Unit) (fun _ => True) (fun _ => [(0, .slice (some ⟨b, 0, none⟩) xs.length c), (1, .int .i64 0), (2, .int .i64 (xs.length : Int)), (6, .int .i64 (i : Int)), (7, .int .i64 (i : Int))]) (fun _ => row (some ⟨b, 0, none⟩) c 3 1 xs.length (xs.flatMap eInt) :: F) (fun _ => 0) () trivial ⟨rfl, rfl, rfl, rfl, rfl, trivial⟩ (fun _ hs => hs) ?_
    intro s hI
    refine Cd.seq ?_
    refine Cd.seq ?_
    refine Cd.draw rfl (by kernel_rfl) (.cons .here .nil) ?_
    intro F1 St2 hP3 hF4 hR5
    refine Dr.q (i := 0) hP3 rfl (by kernel_rfl) (q_mv rfl) ?_
    refine Dr.q (i := 1) hP3 rfl (by kernel_rfl) (q_mv rfl) ?_
    refine Dr.q (i := 2) hP3 rfl (by kernel_rfl) (q_cmp rfl rfl (c_gt (by omega))) ?_
    refine Dr.q (i := 3) hP3 rfl (by kernel_rfl) (q_mv rfl) ?_
    refine Dr.q (i := 4) hP3 rfl (by kernel_rfl) (q_mv rfl) ?_
    refine Dr.q (i := 5) hP3 rfl (by kernel_rfl) (q_mv rfl) ?_
    refine Dr.q (i := 6) hP3 rfl (by kernel_rfl) (q_ix (k := i) esz_31 rfl rfl (by omega)) ?_
    refine Dr.q (i := 7) hP3 rfl (by kernel_rfl) (q_ldO (v := .int .i64 x) isA_3 rfl .here (fm_at0 eInt_len hx rfl)) ?_
    refine Dr.q (i := 8) hP3 rfl (by kernel_rfl) (q_mv rfl) ?_
    refine Dr.q (i := 9) hP3 rfl (by kernel_rfl) (q_mv rfl) ?_
    refine Dr.q (i := 10) hP3 rfl (by kernel_rfl) (q_ar (v := ((i - 1 : Nat) : Int)) rfl rfl (by rw [a_sub (by omega)]; congr 1; omega)) ?_
    refine Dr.q (i := 11) hP3 rfl (by kernel_rfl) (q_ix (k := (i - 1)) esz_31 rfl rfl (by omega)) ?_
    refine Dr.q (i := 12) hP3 rfl (by kernel_rfl) (q_ldO (v := .int .i64 y) isA_3 rfl .here (fm_at0 eInt_len hy rfl)) ?_
    refine Dr.e (i := 13) rfl (by kernel_rfl) ?_
    refine Ops.cp en_130 rfl (fun w hs => dF (less_c x y w) (by omega)) ?_
    refine Dr.back (fun _ hs => hF4 .here hs) ?_
    refine Dr.q (i := 14) hP3 rfl (by kernel_rfl) (q_pickT rfl rfl) ?_
    refine Dr.tail 15 (by kernel_rfl) ?_
    refine Ops.sat ?_ (fun _ hs => hR5 .here hs)
    refine Ops.to rfl ?_
    refine Cd.cond_f rfl ?_
    refine Cd.exitTo rfl ?_
    refine Cd.region ?_
    refine Ops.q (q_mv rfl) ?_
    refine Ops.q (q_ar rfl rfl (a_inc (by omega))) ?_
    refine Ops.q (q_asg rfl) ?_
    refine Ops.rnd (i + 1) rfl (by omega) (by omega) ⟨rfl, rfl, rfl, rfl, trivial⟩ (fun _ hs => hs) 
  · refine Ops.q (q_cmp rfl rfl (c_nlt (by omega))) ?_
    refine Ops.to rfl ?_
    refine Cd.cond_f rfl ?_
    refine Cd.exitFin (fn := Tryz.f124) (by with_reducible repeat (first | exact xq_here | apply xq_then | apply xq_block | apply nq_block)) rfl ?_
    intro w' hs'
    exact ⟨rfl, hs'⟩
theorem len64_c (n : Nat) (w : World) (hn : n ≤ 12) : Calls Tryz.prog 134 [.int .u64 (n : Int)].toArray w fun e w' => ∃ r : Int, e = .returned (.int .i64 r) ∧ Sat w w' [] := by
  refine fstart Tryz.func134 rfl rfl (Sat.nil w) ?_
  refine Cd.seq ?_
  refine Cd.region ?_
  refine Ops.q (q_asg rfl) ?_
  refine Ops.to rfl ?_
  refine Cd.seq ?_
  refine Cd.seq ?_
  refine Cd.region ?_
  refine Ops.q (q_mv rfl) ?_
  refine Ops.q (q_cmp rfl rfl (c_nge (by omega))) ?_
  refine Ops.to rfl ?_
  refine Cd.cond_f rfl ?_
  refine Cd.skipTo rfl ?_
  refine Cd.seq ?_
  refine Cd.seq ?_
  refine Cd.region ?_
  refine Ops.q (q_mv rfl) ?_
  refine Ops.q (q_cmp rfl rfl (c_nge (by omega))) ?_
  refine Ops.to rfl ?_
  refine Cd.cond_f rfl ?_
  refine Cd.skipTo rfl ?_
  refine Cd.seq ?_
  refine Cd.seq ?_
  refine Cd.region ?_
  refine Ops.q (q_mv rfl) ?_
  refine Ops.q (q_cmp rfl rfl (c_nge (by omega))) ?_
  refine Ops.to rfl ?_
  refine Cd.cond_f rfl ?_
  refine Cd.skipTo rfl ?_
  refine Cd.seq ?_
  refine Cd.region ?_
  refine Ops.q (q_mv rfl) ?_
  refine Ops.q (q_mv rfl) ?_
  refine Ops.q (q_conv iK_23 iK_5 rfl (IntWalk.u8_in _ (by omega))) ?_
  refine Ops.ixS (k := n) (sK_u sK_9) rfl rfl (Nat.lt_of_lt_of_le (show n < 256 by omega) (Nat.le_of_ble_eq_true (by kernel_rfl))) ?_
  intro r hr
  refine Ops.q (q_conv iK_5 iK_3 rfl (IntWalk.i64_in _ (by omega))) ?_
  refine Ops.q (q_ar rfl rfl (a_add (by omega))) ?_
  refine Ops.q (q_asg rfl) ?_
  refine Ops.to rfl ?_
  refine Cd.rt (fn := Tryz.f134) [.int .i64 (0 + r)] (by with_reducible repeat (first | exact rq_here | apply rq_then | apply rq_block)) rfl ⟨rfl, trivial⟩ ?_
  intro w' hs'
  exact ⟨_, rfl, hs'.none⟩
theorem len_c (n : Nat) (w : World) (hn : n ≤ 12) : Calls Tryz.prog 103 [.int .u64 (n : Int)].toArray w fun e w' => ∃ r : Int, e = .returned (.int .i64 r) ∧ Sat w w' [] := by
  refine fstart Tryz.func103 rfl rfl (Sat.nil w) ?_
  refine Cd.seq ?_
  refine Cd.region ?_
  refine Ops.q (q_asg rfl) ?_
  refine Ops.to rfl ?_
  refine Cd.seq ?_
  refine Cd.cond_f rfl ?_
  refine Cd.skipTo rfl ?_
  refine Cd.seq ?_
  refine Cd.region ?_
  refine Ops.q (q_mv rfl) ?_
  refine Ops.cl (α := Int) (v := fun r => .int .i64 r) (B := fun _ => []) en_134 rfl (fun w hs => len64_c n w hn) ?_
  intro r
  refine Ops.q (q_asg rfl) ?_
  refine Ops.to rfl ?_
  refine Cd.rt (fn := Tryz.f103) [.int .i64 r] (by with_reducible repeat (first | exact rq_here | apply rq_then | apply rq_block)) rfl ⟨rfl, trivial⟩ ?_
  intro w' hs'
  exact ⟨_, rfl, hs'.none⟩
theorem pdq_c (r : Int) (a : Option Addr) (c : Nat) (xs : List Int) (w0 w : World) (F : List Atom) (hp : xs.Pairwise (· < ·)) (hl : xs.length ≤ 12) (hs : Sat w0 w (row a c 3 1 xs.length (xs.flatMap eInt) :: F)) : Calls Tryz.prog 102 [.slice a xs.length c, .int .i64 0, .int .i64 (xs.length : Int), .int .i64 r].toArray w fun e w' => e = .returned (.tuple #[]) ∧ Sat w0 w' (row a c 3 1 xs.length (xs.flatMap eInt) :: F) := by
  refine fstart Tryz.func102 rfl rfl hs ?_
  refine Cd.seq ?_
  refine Cd.region ?_
  refine Ops.q (q_asg rfl) ?_
  refine Ops.to rfl ?_
  refine Cd.seq ?_
  refine Cd.region ?_
  refine Ops.q (q_asg rfl) ?_
  refine Ops.to rfl ?_
  refine Cd.block ?_
  refine Cd.lp (σ := Unit) (fun _ => True) (fun _ => [(0, .slice a xs.length c), (1, .int .i64 0), (2, .int .i64 (xs.length : Int)), (3, .int .i64 r), (8, .bool true), (9, .bool true)]) (fun _ => row a c 3 1 xs.length (xs.flatMap eInt) :: F) (fun _ => 0) () trivial ⟨rfl, rfl, rfl, rfl, rfl, rfl, trivial⟩ (fun _ hs => hs) ?_
  intro s hI
  refine Cd.block ?_
  refine Cd.seq ?_
  refine Cd.region ?_
  refine Ops.q (q_mv rfl) ?_
  refine Ops.q (q_mv rfl) ?_
  refine Ops.q (q_ar rfl rfl (a_sub (by omega))) ?_
  refine Ops.q (q_asg rfl) ?_
  refine Ops.to rfl ?_
  refine Cd.seq ?_
  refine Cd.seq ?_
  refine Cd.region ?_
  refine Ops.q (q_mv rfl) ?_
  refine Ops.q (q_cmp rfl rfl (c_le (by omega))) ?_
  refine Ops.to rfl ?_
  refine Cd.cond_t rfl ?_
  refine Cd.seq ?_
  refine Cd.region ?_
  refine Ops.q (q_mv rfl) ?_
  refine Ops.q (q_mv rfl) ?_
  refine Ops.q (q_mv rfl) ?_
  refine Ops.cm (α := Unit) (v := fun _ => .tuple #[]) (A' := fun _ => row a c 3 1 xs.length (xs.flatMap eInt) :: F) en_124 rfl (fun w hs => (isort_c a c xs w0 w _ hp hl hs).mono fun e w' h => ⟨(), h.1, h.2⟩) ?_
  intro _
  refine Ops.to rfl ?_
  refine Cd.rt (fn := Tryz.f102) [] (by with_reducible repeat (first | exact rq_here | apply rq_then | apply rq_block)) rfl trivial ?_
  intro w' hs'
  exact ⟨rfl, hs'⟩
theorem sort_c (a : Option Addr) (c : Nat) (xs : List Int) (w0 w : World) (F : List Atom) (hp : xs.Pairwise (· < ·)) (hl : xs.length ≤ 12) (hs : Sat w0 w (row a c 3 1 xs.length (xs.flatMap eInt) :: F)) : Calls Tryz.prog 72 [.slice a xs.length c].toArray w fun e w' => e = .returned (.tuple #[]) ∧ Sat w0 w' (row a c 3 1 xs.length (xs.flatMap eInt) :: F) := by
  refine fstart Tryz.func72 rfl rfl hs ?_
  refine Cd.seq ?_
  refine Cd.region ?_
  refine Ops.q (q_mv rfl) ?_
  refine Ops.q (q_len esz_31 rfl) ?_
  refine Ops.q (q_asg rfl) ?_
  refine Ops.to rfl ?_
  refine Cd.region ?_
  refine Ops.q (q_mv rfl) ?_
  refine Ops.q (q_mv rfl) ?_
  refine Ops.q (q_mv rfl) ?_
  refine Ops.q (q_conv iK_3 iK_110 rfl (IntWalk.u64_in _ (by omega))) ?_
  refine Ops.cl (α := Int) (v := fun r => .int .i64 r) (B := fun _ => []) en_103 rfl (fun w hs => len_c xs.length w hl) ?_
  intro r
  refine Ops.cm (α := Unit) (v := fun _ => .tuple #[]) (A' := fun _ => row a c 3 1 xs.length (xs.flatMap eInt) :: F) en_102 rfl (fun w hs => (pdq_c r a c xs w0 w _ hp hl hs).mono fun e w' h => ⟨(), h.1, h.2⟩) ?_
  intro _
  refine Ops.fin rfl rfl ?_
  intro w' hs'
  exact ⟨rfl, hs'⟩
end Go.Proofs.YtilcdghliigngaaGreatDoor
namespace Go.Proofs.YtilcdghliigngaaGreatDoorGl
open Go.RowKit
set_option linter.unusedVariables false
set_option linter.unusedSimpArgs false
def Iter1 {α : Type} (P : Program) (k : FuncId) (caps : List Value) (enc : α → List Value) (BX : α → Atom) (w0 : World) (X : List Atom) : Prop :=
  ∀ (I0 : List Atom) (I1 : α → List Atom) (l : Nat) (w : World), (∀ Y x w, Sat w0 w (bun I0 :: BX x :: Y) → YCall P l (enc x).toArray w (fun w' => Sat w0 w' (bun (I1 x) :: Y))) →
    Sat w0 w (bun I0 :: X) → Calls P k (.func (.yield l) #[] #[] :: caps).toArray w (fun e w' => e = .returned (.tuple #[]) ∧ ∃ x, Sat w0 w' (bun (I1 x) :: X))
section
variable {P : Program} {r : Option Nat} {ops : Array Oper} {Q : Exit → Act → World → Prop} {w0 : World} {n : Nat} {D : List Deferred} {rest : List Oper} {L : Env} {A : List Atom}
theorem Cd.range1 {α β : Type} {gop : Operand} {ps : List Nat} {assign body y : Code} {Q' : Exit → Act → World → Prop} {k : FuncId} {caps : List Value} {enc : α → List Value} {BX : α → Atom} {X : List Atom} (I0 : List Atom) (I1 : α → List Atom) (L1 : α → β → Env) (A1 : α → β → List Atom)
    (hI : Iter1 P k caps enc BX w0 X) (he : Enters P k) (hg : ev L gop = some (.func (.func k) #[] caps.toArray)) (hA : ∀ w, Sat w0 w A → Sat w0 w (I0 ++ X)) (hps : ps.all (fun p => Nat.blt p n) = true) (hsz : ∀ x, (enc x).length = ps.length)
    (hassign : ∀ (l : Nat) (Y : List Atom) (x : α), Cd P (some l) assign (MidQ w0 n (L1 x) (A1 x) Y) w0 n [] (Lps ps (enc x) L) (BX x :: (I0 ++ Y)))
    (hbody : ∀ (l : Nat) (Y : List Atom) (x : α) (b : β), Cd P (some l) body (EndQ w0 (I1 x) Y) w0 n [] (L1 x b) (A1 x b ++ Y))
    (hq : Q .normal = y.wpIn (Fw none) 0 P Q') (hnext : ∀ d x, Cd P none y Q' w0 n (mark d :: D) L (dblk d :: (I1 x ++ X))) : Cd P none (.rangeFunc gop ps.toArray assign body) Q w0 n D L A := by
  intro a w hk hs
  refine wpIn_rangeFunc (F := Fw none) ?_
  intro fn _
  have hs1 := hA w hs
  let w1 := (w.alloc (.deferred (some []))).alloc (.loop { state := .ready, pending := none, fn, tmps := a.tmps, params := ps.toArray, assign, body, defers := w.heap.size })
  have hsz1 : (w.alloc (.deferred (some []))).heap.size = w.heap.size + 1 := World.size_alloc ..
  have hs2 : Sat w0 (w.alloc (.deferred (some []))) (dblk w.heap.size :: (I0 ++ X)) :=
    hs1.add (Below.alloc (Below.refl _ _) (Nat.le_refl _) _) (S := fun k => k = w.heap.size) ⟨heap_alloc_new w _, fun _ => Iff.rfl⟩ (fun _ hk => by omega)
  have hkr : Kn n [] L ⟨a.tmps, []⟩ := ⟨hk.size, rfl, hk.look⟩
  have hs3 : Sat w0 w1 (lrec .ready (w.heap.size + 1) n L ps assign body :: dblk w.heap.size :: (I0 ++ X)) := by
    refine hs2.add (Below.alloc (Below.refl _ _) (Nat.le_refl _) _) (S := fun k => k = w.heap.size + 1) ⟨⟨fn, a.tmps, w.heap.size, ?_, hkr⟩, fun _ => Iff.rfl⟩ (fun _ hk => by omega)
    have := heap_alloc_new (w.alloc (.deferred (some []))) (.loop { state := .ready, pending := none, fn, tmps := a.tmps, params := ps.toArray, assign, body, defers := w.heap.size })
    rw [hsz1] at this
    exact this
  refine ⟨w.heap.size + 1, [mark w.heap.size], w1, ⟨.fn (.func k) caps.toArray, #[.func (.yield (w.heap.size + 1)) #[] #[]]⟩, w1, k, (.func (.yield (w.heap.size + 1)) #[] #[] :: caps).toArray, w1, run_enterLoop_outer .., ?_, fun _ _ => trivial, ?_, fun h => by simp at h, ?_⟩
  · have e1 : a.eval gop = .func (.func k) #[] caps.toArray := hk.ev hg
    simp only [resolve, e1, Deferred.ofValue]
    simp [Act.eval]
  · have := he (.func (.yield (w.heap.size + 1)) #[] #[] :: caps).toArray w1
    simpa [invoke] using this
  · have hb : Sat w0 w1 (bun (I0 ++ [lrec .ready (w.heap.size + 1) n L ps assign body, dblk w.heap.size]) :: X) := by
      refine Sat.bundle ?_
      rw [List.append_assoc]
      have h5 : Sat w0 w1 (dblk w.heap.size :: (I0 ++ lrec .ready (w.heap.size + 1) n L ps assign body :: X)) := Sat.toEnd (B := dblk w.heap.size :: I0) hs3
      have h6 := Sat.toEnd h5
      exact Sat.push ((h6.pull (Pull.right (.there .here) I0))) (Pull.right .here I0)
    have hc := hI (I0 ++ [lrec .ready (w.heap.size + 1) n L ps assign body, dblk w.heap.size]) (fun x => I1 x ++ [lrec .ready (w.heap.size + 1) n L ps assign body, dblk w.heap.size]) (w.heap.size + 1) w1 ?_ hb
    · refine callsIn_Fw (hc.mono fun e w' hh => ?_)
      obtain ⟨rfl, x, hs'⟩ := hh
      have hs' := hs'.unbundle
      rw [List.append_assoc] at hs'
      have hs' := Sat.toTop (a := lrec .ready (w.heap.size + 1) n L ps assign body) (X := dblk w.heap.size :: X) hs'
      obtain ⟨S, ⟨⟨fn', tmps', d', h1, h2⟩, h3⟩⟩ := hs'.mem .here
      refine ⟨none, _, run_endLoop h1 (by simp), ?_⟩
      simp only []
      rw [hq]
      refine hnext w.heap.size x _ _ ⟨hk.size, by simp [hk.defers], hk.look⟩ ?_
      have h4 := putObj_step (a' := junk (w.heap.size + 1)) (o' := .loop { state := .exhausted, pending := none, fn := fn', tmps := tmps', params := ps.toArray, assign, body, defers := d' }) hs' h1 (fun S h => h.2) (fun S h => ⟨by
        have hlt := (Array.getElem?_eq_some_iff.1 h1).1
        simp [World.putObj, hlt], h.2⟩)
      exact Sat.toTop h4.drop
    · intro Y x w' hsy
      have hsy := hsy.unbundle
      rw [List.append_assoc] at hsy
      have hsy : Sat w0 w' (BX x :: (I0 ++ ([lrec .ready (w.heap.size + 1) n L ps assign body, dblk w.heap.size] ++ Y))) := by
        have h11 : Sat w0 w' ((I0 ++ [lrec .ready (w.heap.size + 1) n L ps assign body, dblk w.heap.size]) ++ BX x :: Y) := by rw [List.append_assoc]; exact hsy
        have h12 := Sat.toTop h11
        rw [List.append_assoc] at h12
        exact h12
      obtain ⟨S, ⟨⟨fn', tmps', d', h1, h2⟩, h3⟩⟩ := (Sat.toTop (B := BX x :: I0) (a := lrec .ready (w.heap.size + 1) n L ps assign body) (X := dblk w.heap.size :: Y) hsy).mem .here
      refine ⟨fn', _, assign, body, run_yield h1 (by simp [hsz]), ?_⟩
      refine roundIn_of_wpIn (F := Fw none) trivial ?_
      have hkx := Kn.params ps (enc x) L tmps' (fun p hp => by simpa [Nat.blt_eq] using List.all_eq_true.1 hps p hp) h2
      have hr := hassign (w.heap.size + 1) (lrec .ready (w.heap.size + 1) n L ps assign body :: dblk w.heap.size :: Y) x ⟨_, []⟩ w' hkx hsy
      have e : (ps.toArray.zip (enc x).toArray).foldl (fun (tmps : Array Value) (p : Nat × Value) => tmps.setIfInBounds p.1 p.2) tmps' = (ps.zip (enc x)).foldl (fun t p => t.setIfInBounds p.1 p.2) tmps' := by
        rw [List.zip_toArray, List.foldl_toArray]
      show Code.wpIn _ _ _ _ _ ⟨_, []⟩ w'
      rw [show (ps.toArray.zip (enc x).toArray).foldl (fun (tmps : Array Value) (x : Nat × Value) => match x with | (t, a) => tmps.setIfInBounds t a) tmps' = (ps.zip (enc x)).foldl (fun t p => t.setIfInBounds p.1 p.2) tmps' from e]
      refine wpIn_mono hr (fun e a1 w1 hh => ?_)
      obtain ⟨rfl, b, hk1, hs1⟩ := hh
      have hs2 := Sat.toTop hs1
      obtain ⟨S, ⟨⟨fn2, tmps2, d2, g1, g2⟩, g3⟩⟩ := hs2.mem .here
      have h7 := putObj_step (a' := lrec .busy (w.heap.size + 1) n L ps assign body) (o' := .loop { state := .busy, pending := none, fn := fn2, tmps := tmps2, params := ps.toArray, assign, body, defers := d2 }) hs2 g1 (fun S h => h.2) (fun S h => ⟨⟨fn2, tmps2, d2, by
        have hlt := (Array.getElem?_eq_some_iff.1 g1).1
        simp [World.putObj, hlt], g2⟩, h.2⟩)
      refine ⟨_, run_beginRound g1 rfl, ?_⟩
      refine wpIn_mono (hbody (w.heap.size + 1) (lrec .busy (w.heap.size + 1) n L ps assign body :: dblk w.heap.size :: Y) x b a1 _ hk1 (Sat.toEnd h7)) (fun e a2 w2 hh => ?_)
      obtain ⟨rfl, hs3⟩ := hh
      have hs4 := Sat.toTop hs3
      obtain ⟨S, ⟨⟨fn3, tmps3, d3, g1, g2⟩, g3⟩⟩ := hs4.mem .here
      have h8 := putObj_step (a' := lrec .ready (w.heap.size + 1) n L ps assign body) (o' := .loop { state := .ready, pending := none, fn := fn3, tmps := tmps3, params := ps.toArray, assign, body, defers := d3 }) hs4 g1 (fun S h => h.2) (fun S h => ⟨⟨fn3, tmps3, d3, by
        have hlt := (Array.getElem?_eq_some_iff.1 g1).1
        simp [World.putObj, hlt], g2⟩, h.2⟩)
      refine ⟨_, _, run_endRound none g1, rfl, Sat.bundle ?_⟩
      rw [List.append_assoc]
      exact Sat.toEnd h8
def RndD {σ : Type} (I : σ → Prop) (Ls : σ → Env) (As : σ → List Atom) (Ds : σ → List Deferred) (μ : σ → Nat) (w0 : World) (n : Nat) (m : Nat) (a : Act) (w : World) : Prop := ∃ s', I s' ∧ μ s' < m ∧ Kn n (Ds s') (Ls s') a ∧ Sat w0 w (As s')
theorem Cd.lpD {σ : Type} {c : Code} (I : σ → Prop) (Ls : σ → Env) (As : σ → List Atom) (Ds : σ → List Deferred) (μ : σ → Nat) (s0 : σ) (h0 : I s0) (hD : Ds s0 = D) (hL : Sub (Ls s0) L) (hA : ∀ w, Sat w0 w A → Sat w0 w (As s0))
    (round : ∀ s, I s → Cd P r c (Exit.then (RndD I Ls As Ds μ w0 n (μ s)) Q) w0 n (Ds s) (Ls s) (As s)) : Cd P r (.loop c) Q w0 n D L A := by
  subst hD
  intro a w hk hs
  let p : Act → World → Nat → Prop := fun a w k => ∃ s, I s ∧ μ s = k ∧ Kn n (Ds s) (Ls s) a ∧ Sat w0 w (As s)
  refine wpIn_loop (fun a w => ∃ k, p a w k) (fun a w => least (p a w)) ⟨_, s0, h0, rfl, hk.sub hL, hA w hs⟩ ?_
  intro a w hp
  obtain ⟨s, hI, hm, hk, hs⟩ := least_spec hp
  refine wpIn_mono (round s hI a w hk hs) ?_
  intro e a' w' hq
  cases e with
  | normal =>
    obtain ⟨s', hI', hlt, hk', hs'⟩ := hq
    have h1 : p a' w' (μ s') := ⟨s', hI', rfl, hk', hs'⟩
    exact ⟨⟨_, h1⟩, Nat.lt_of_le_of_lt (least_le h1) (by rw [← hm]; exact hlt)⟩
  | exit id => exact hq
  | goto l => exact hq
  | ret => exact hq
  | panic ch => exact hq
  | outgrown => exact hq
theorem Ops.rndD {σ : Type} {I : σ → Prop} {Ls : σ → Env} {As : σ → List Atom} {Ds : σ → List Deferred} {μ : σ → Nat} {m : Nat} (s' : σ) (hq : Q .normal = RndD I Ls As Ds μ w0 n m) (hI : I s') (hm : μ s' < m) (hD : Ds s' = D) (hL : Sub (Ls s') L) (hA : ∀ w, Sat w0 w A → Sat w0 w (As s')) : Ops P r ops Q w0 n D [] L A := by
  subst hD
  exact Ops.nil (fun _ w hk hs => by rw [hq]; exact ⟨s', hI, hm, hk.sub hL, hA w hs⟩)
theorem leaves_marks {fn : Func} {R : Ending → World → Prop} {xs : List ResultVar} {vs : List Value} {A' : List Atom} {tmps : Array Value} (hk : Kn n [] L ⟨tmps, []⟩) (hr : fn.results = xs.toArray) (hv : Ress P w0 L A' xs vs)
    (h : ∀ w, Sat w0 w A' → R (.returned (joinV vs)) w) : ∀ (ds : List Nat) (w : World), Sat w0 w (ds.map dblk ++ A') → LeavesInM (Fw none) 0 P fn tmps R (ds.map mark) .returning w
  | [], w, hs => ⟨_, run_results (P := P) hk hs hr hv, h _ hs⟩
  | d :: ds, w, hs => by
    obtain ⟨S, h1, h2⟩ := hs.mem .here
    have h4 := putObj_step (a' := junk d) (o' := .deferred none) hs h1 (fun S h => h.2) (fun S h => ⟨by
      have hlt := (Array.getElem?_eq_some_iff.1 h1).1
      simp [World.putObj, hlt], h.2⟩)
    exact ⟨by simp, .inl ⟨d, _, rfl, run_takeDeferred h1, leaves_marks hk hr hv h ds _ h4.drop⟩⟩
theorem Cd.rtMs {fn : Func} {R : Ending → World → Prop} {xs : List ResultVar} (vs : List Value) {ds : List Nat} {A' : List Atom} (hq : Q .ret = bodyPostM (Fw none) 0 P fn R .ret) (hr : fn.results = xs.toArray) (hv : Ress P w0 L A' xs vs) (hD : D = ds.map mark)
    (hp : ∀ w, Sat w0 w A → Sat w0 w (ds.map dblk ++ A')) (h : ∀ w, Sat w0 w A' → R (.returned (joinV vs)) w) : Cd P r .ret Q w0 n D L A := by
  subst hD
  refine Cd.ret (fun a w hk hs => ?_)
  rw [hq]
  show LeavesInM (Fw none) 0 P fn a.tmps R a.defers .returning w
  rw [hk.defers]
  exact leaves_marks ⟨hk.size, rfl, hk.look⟩ hr hv h ds w (hp w hs)
theorem q_shl0 {tx tz : TypeId} {x y : Operand} {k k' : IntKind} {i : Int} (hx : ev L x = some (.int k i)) (hy : ev L y = some (.int k' 0)) (hi : k.wrap i = i) : Qv P w0 n D L A (.binOp .shl tx x y tz) (.int k i) := fun ac w hk _ _ _ _ _ _ => ⟨by
  have h : ¬ (0 : Int) < 0 := by omega
  simp [execOp, hk.ev hx, hk.ev hy, eqGuard, binOp, Op.shift, h, hi], rfl⟩
end
end Go.Proofs.YtilcdghliigngaaGreatDoorGl
namespace Go.Proofs.YtilcdghliigngaaGreatDoor
open Go.RowKit Go.Proofs.YtilcdghliigngaaGreatDoorGl Go.Proofs.YtilcdghliigngaaGreatDoorPm
set_option linter.unusedVariables false
set_option linter.unusedSimpArgs false
def atL (t : Nat) (ids : List Int) : List Evt := ids.map fun i => ⟨(t : Int), i⟩
theorem atL_next {t : Nat} {ids : List Int} {k : Nat} {x : Int} (hx : ids[k]? = some x) : (atL t (ids.take k)).flatMap eEvt ++ [.int .i64 (t : Int), .int .i64 x] = (atL t (ids.take (k + 1))).flatMap eEvt := by
  unfold atL
  rw [take_get hx, List.map_append, fm_app]; rfl
theorem at_c (t : Nat) (ia : Option Addr) (ic : Nat) (ids : List Int) (w : World) (hX : RoL w ia eInt ids) (hl : ids.length ≤ 1000) : Calls Tryz.prog 35 [.int .i64 (t : Int), .slice ia ids.length ic].toArray w fun e w' => ∃ p : Option Addr × Nat, e = .returned (.slice p.1 ids.length p.2) ∧ Sat w w' [row p.1 p.2 70 2 ids.length ((atL t ids).flatMap eEvt)] := by
  refine fstart Tryz.func35 rfl rfl (Sat.nil w) ?_
  refine Cd.seq ?_
  refine Cd.region ?_
  refine Ops.q (q_asg rfl) ?_
  refine Ops.to rfl ?_
  refine Cd.seq ?_
  refine Cd.region ?_
  refine Ops.q (q_asg rfl) ?_
  refine Ops.to rfl ?_
  refine Cd.seq ?_
  refine Cd.seq ?_
  refine Cd.region ?_
  refine Ops.q (q_mv rfl) ?_
  refine Ops.q (q_len esz_31 rfl) ?_
  refine Ops.q (q_mv rfl) ?_
  refine Ops.to rfl ?_
  refine Cd.block ?_
  refine Cd.lp (σ := Nat × Option Addr × Nat) (fun s => s.1 ≤ ids.length) (fun s => [(0, .int .i64 (t : Int)), (8, .slice ia ids.length ic), (9, .int .i64 (ids.length : Int)), (5, .slice s.2.1 s.1 s.2.2), (10, .int .i64 (s.1 : Int))]) (fun s => [row s.2.1 s.2.2 70 2 s.1 ((atL t (ids.take s.1)).flatMap eEvt)]) (fun s => ids.length - s.1) (0, none, 0) (Nat.zero_le _) ⟨rfl, rfl, rfl, rfl, rfl, trivial⟩ (fun _ hs => hs.nilRow 70 2) ?_
  rintro ⟨k, pa, pc⟩ hI
  dsimp only at hI
  change Cd _ _ _ _ _ _ _ [(0, .int .i64 (t : Int)), (8, .slice ia ids.length ic), (9, .int .i64 (ids.length : Int)), (5, .slice pa k pc), (10, .int .i64 (k : Int))] ([row pa pc 70 2 k ((atL t (ids.take k)).flatMap eEvt)])
  refine Cd.seq ?_
  refine Cd.region ?_
  by_cases hk : (k : Int) < (ids.length : Int)
  · refine Ops.q (q_cmp rfl rfl (c_lt hk)) ?_
    obtain ⟨x1, hx2⟩ : ∃ x, ids[k]? = some x := ⟨_, List.getElem?_eq_getElem (by omega)⟩
    obtain ⟨ab3, ao4, rfl⟩ := RoL.pos hX eInt_len hx2
    refine Ops.to rfl ?_
    refine Cd.seq ?_
    refine Cd.cond_t rfl ?_
    refine Cd.skipTo rfl ?_
    refine Cd.seq ?_
    refine Cd.block ?_
    refine Cd.seq ?_
    refine Cd.region ?_
    refine Ops.q (q_ix (k := k) esz_31 rfl rfl (by omega)) ?_
    refine Ops.q (q_ldR isA_3 rfl (hX.at0 eInt_len hx2 rfl)) ?_
    refine Ops.q (q_asg rfl) ?_
    refine Ops.to rfl ?_
    refine Cd.region ?_
    refine Ops.q (q_mv rfl) ?_
    refine Ops.q (q_mv rfl) ?_
    refine Ops.q (q_mv rfl) ?_
    refine Ops.q (q_bld [.int .i64 (t : Int), .int .i64 x1] pls_70 zc_70 rfl rfl) ?_
    refine Ops.lit [.int .i64 (t : Int), .int .i64 x1] el_43 zsb_70 rfl rfl ⟨by decide, by decide⟩ rfl ?_
    intro b5
    refine Ops.app (news := [.int .i64 (t : Int), .int .i64 x1]) el_43 zsb_70 (by decide) rfl rfl (fun _ hs => hs.ownRo .here) (fun _ hs => (hs.pull .here).drop) (fun _ _ => .here) rfl (one rfl) (by omega) (by omega) ?_
    intro a6 c7
    refine Ops.q (q_asg rfl) ?_
    refine Ops.to rfl ?_
    refine Cd.region ?_
    refine Ops.q (q_ar rfl rfl (a_inc (by omega))) ?_
    refine Ops.q (q_mv rfl) ?_
    refine Ops.rnd ((k + 1, a6, c7)) rfl (by dsimp only; exact (by omega)) (by dsimp only; omega) ⟨rfl, rfl, rfl, rfl, rfl, trivial⟩ (fun _ hs => by rw [atL_next hx2] at hs; exact hs) 
  · refine Ops.q (q_cmp rfl rfl (c_nlt (by omega))) ?_
    refine Ops.to rfl ?_
    refine Cd.seq ?_
    refine Cd.cond_f rfl ?_
    refine Cd.exitTo rfl ?_
    refine Cd.seq ?_
    refine Cd.region ?_
    refine Ops.q (q_mv rfl) ?_
    refine Ops.q (q_asg rfl) ?_
    refine Ops.to rfl ?_
    refine Cd.rt (fn := Tryz.f35) [.slice pa k pc] (by with_reducible repeat (first | exact rq_here | apply rq_then | apply rq_block)) rfl ⟨rfl, trivial⟩ ?_
    intro w' hs'
    have hk1 : k = ids.length := by omega
    rw [hk1, List.take_length] at hs'
    exact ⟨(pa, pc), by rw [hk1]; rfl, hs'⟩
inductive Chain (w : World) : Option Addr → Nat → Prop
  | nil : Chain w none 0
  | node {b d gc : Nat} {v0 v1 v2 : Value} {prev ga : Option Addr} {gs : List Evt} : Ro w (some ⟨b, 0, none⟩) [v0, v1, v2, .pointer prev, .slice ga gs.length gc] → RoL w ga eEvt gs → gs.length ≤ 100 → Chain w prev d → Chain w (some ⟨b, 0, none⟩) (d + 1)
theorem Chain.later {w w' : World} (hb : Below w.heap.size w w') : ∀ {p : Option Addr} {d : Nat}, Chain w p d → Chain w' p d
  | _, _, .nil => .nil
  | _, _, .node h1 h2 h3 h4 => .node (Ro.later h1 hb) (RoL.later h2 hb) h3 (Chain.later hb h4)
def RunR (d : Nat) (w : World) (e : Ending) (w' : World) : Prop := ∃ x : Option Addr × Nat × List Evt, e = .returned (.slice x.1 x.2.2.length x.2.1) ∧ x.2.2.length ≤ 100 * d ∧ Sat w w' [row x.1 x.2.1 70 2 x.2.2.length (x.2.2.flatMap eEvt)]
theorem run0_c (w : World) : Calls Tryz.prog 33 [.pointer none].toArray w (RunR 0 w) := by
  refine fstart Tryz.func33 rfl rfl (Sat.nil w) ?_
  refine Cd.seq ?_
  refine Cd.region ?_
  refine Ops.q (q_asg rfl) ?_
  refine Ops.to rfl ?_
  refine Cd.seq ?_
  refine Cd.seq ?_
  refine Cd.region ?_
  refine Ops.q (q_mv rfl) ?_
  refine Ops.q (q_pNil (isPtr_u ip_79) rfl rfl) ?_
  refine Ops.to rfl ?_
  refine Cd.cond_t rfl ?_
  refine Cd.seq ?_
  refine Cd.region ?_
  refine Ops.q (q_asg rfl) ?_
  refine Ops.to rfl ?_
  refine Cd.rt (fn := Tryz.f33) [.slice none 0 0] (by with_reducible repeat (first | exact rq_here | apply rq_then | apply rq_block)) rfl ⟨rfl, trivial⟩ ?_
  intro w' hs'
  exact ⟨(none, 0, []), rfl, Nat.zero_le _, hs'.nilRow 70 2⟩
theorem run1_c (b d gc : Nat) (v0 v1 v2 : Value) (prev ga : Option Addr) (gs : List Evt) (w : World) (hb : Ro w (some ⟨b, 0, none⟩) [v0, v1, v2, .pointer prev, .slice ga gs.length gc]) (hG : RoL w ga eEvt gs) (hgl : gs.length ≤ 100) (hd : d ≤ 1000) (hih : ∀ w', Below w.heap.size w w' → Calls Tryz.prog 33 [.pointer prev].toArray w' (RunR d w')) : Calls Tryz.prog 33 [.pointer (some ⟨b, 0, none⟩)].toArray w (RunR (d + 1) w) := by
  refine fstart Tryz.func33 rfl rfl (Sat.nil w) ?_
  refine Cd.seq ?_
  refine Cd.region ?_
  refine Ops.q (q_asg rfl) ?_
  refine Ops.to rfl ?_
  refine Cd.seq ?_
  refine Cd.seq ?_
  refine Cd.region ?_
  refine Ops.q (q_mv rfl) ?_
  refine Ops.q (q_pNil (isPtr_u ip_79) rfl rfl) ?_
  refine Ops.to rfl ?_
  refine Cd.cond_f rfl ?_
  refine Cd.skipTo rfl ?_
  refine Cd.seq ?_
  refine Cd.draw rfl (by kernel_rfl) .nil ?_
  intro F1 St2 hP3 hF4 hR5
  refine Dr.q (i := 0) hP3 rfl (by kernel_rfl) (q_mv rfl) ?_
  refine Dr.q (i := 1) hP3 rfl (by kernel_rfl) (q_nck rfl) ?_
  refine Dr.q (i := 2) hP3 rfl (by kernel_rfl) (q_fa fo_81_3 rfl) ?_
  refine Dr.q (i := 3) hP3 rfl (by kernel_rfl) (q_ldR (v := .pointer prev) isA_79 rfl (Ro.at hb (j := 3) rfl)) ?_
  refine Dr.q (i := 5) hP3 rfl (by kernel_rfl) (q_mv rfl) ?_
  refine Dr.q (i := 6) hP3 rfl (by kernel_rfl) (q_nck rfl) ?_
  refine Dr.q (i := 7) hP3 rfl (by kernel_rfl) (q_fa fo_81_4 rfl) ?_
  refine Dr.q (i := 8) hP3 rfl (by kernel_rfl) (q_ldR (v := .slice ga gs.length gc) isA_43 rfl (Ro.at hb (j := 4) rfl)) ?_
  refine Dr.e (i := 4) rfl (by kernel_rfl) ?_
  refine Ops.cl (α := {x : Option Addr × Nat × List Evt // x.2.2.length ≤ 100 * d}) (v := fun x => .slice x.1.1 x.1.2.2.length x.1.2.1) (B := fun x => [row x.1.1 x.1.2.1 70 2 x.1.2.2.length (x.1.2.2.flatMap eEvt)]) en_33 rfl (fun w hs => (hih w hs.below).mono fun e w' ⟨x, h1, h2, h3⟩ => ⟨⟨x, h2⟩, h1, h3⟩) ?_
  rintro ⟨⟨xa, xc, xs⟩, hxs⟩
  dsimp only at hxs
  refine Dr.back (fun _ hs => hF4 (.there .here) hs) ?_
  refine Dr.e (i := 9) rfl (by kernel_rfl) ?_
  refine Ops.app (news := (gs.flatMap eEvt)) el_43 zsb_70 (by decide) rfl rfl (fun _ hs => hG.later hs.below) (fun _ hs => hs) (fun _ _ => .here) (fm_length eEvt_len gs) (fm_one eEvt_one gs) (by show (xs.length + gs.length) * 16 ≤ 140737488355328; omega) (by show xs.length + gs.length ≤ 140737488355328; omega) ?_
  intro a6 c7
  refine Dr.back (fun _ hs => hF4 (.there .here) hs) ?_
  refine Dr.tail 10 (by kernel_rfl) ?_
  refine Ops.sat ?_ (fun _ hs => hR5 (.there .here) hs)
  refine Ops.q (q_asg rfl) ?_
  refine Ops.to rfl ?_
  refine Cd.rt (fn := Tryz.f33) [.slice a6 (xs.length + gs.length) c7] (by with_reducible repeat (first | exact rq_here | apply rq_then | apply rq_block)) rfl ⟨rfl, trivial⟩ ?_
  intro w' hs'
  rw [← fm_app] at hs'
  exact ⟨(a6, c7, xs ++ gs), by rw [List.length_append]; rfl, by dsimp only; rw [List.length_append]; omega, by rw [List.length_append]; exact hs'⟩
theorem noderun_c : ∀ (d : Nat) (p : Option Addr) (w : World), d ≤ 1000 → Chain w p d → Calls Tryz.prog 33 [.pointer p].toArray w (RunR d w)
  | _, _, w, _, .nil => run0_c w
  | _, _, w, hd, .node h1 h2 h3 h4 => run1_c _ _ _ _ _ _ _ _ _ w h1 h2 h3 (by omega) (fun w' hb => noderun_c _ _ w' (by omega) (h4.later hb))
theorem shown_c (pa : Option Addr) (pc : Nat) (m : Int) (fa : Option Addr) (fc : Nat) (fires : List Int) (w0 : World) (hP : RoL w0 pa eInt [m]) (hF : RoL w0 fa eInt fires) (hl : fires.length ≤ 10000) : Calls Tryz.prog 32 [.agg [.slice pa 1 pc, .slice none 0 0].toArray, .slice fa fires.length fc].toArray w0 fun e w' => e = .returned (.bool (decide (m ∈ fires))) ∧ Sat w0 w' [] := by
  refine fstart Tryz.func32 rfl rfl (Sat.nil w0) ?_
  refine Cd.seq ?_
  refine Cd.region ?_
  refine Ops.box [.slice pa 1 pc, .slice none 0 0] rfl rfl ?_
  intro b1
  refine Ops.box [.slice fa fires.length fc] rfl rfl ?_
  intro b2
  refine Ops.q (q_asg rfl) ?_
  refine Ops.to rfl ?_
  refine Cd.seq ?_
  refine Cd.region ?_
  refine Ops.q (q_mkf rfl rfl) ?_
  refine Ops.alc [.nilFunc] zc_104 ?_
  intro b3
  refine Ops.stB [.func (.func 69) #[] #[.pointer (some ⟨b2, 0, none⟩)]] [.func (.func 69) #[] #[.pointer (some ⟨b2, 0, none⟩)]] sz_104 rfl rfl rfl (one rfl) .here rfl rfl ?_
  refine Ops.to rfl ?_
  refine Cd.seq ?_
  refine Cd.region ?_
  refine Ops.q (q_fa fo_51_0 rfl) ?_
  refine Ops.q (q_ldB isA_31 rfl .p2 rfl) ?_
  refine Ops.q (q_mkf rfl rfl) ?_
  by_cases hm : m ∈ fires
  · refine Ops.cm (α := Unit) (v := fun _ => .bool false) (A' := fun _ => [blk b3 104 [.func (.func 69) #[] #[.pointer (some ⟨b2, 0, none⟩)]], blk b2 31 [.slice fa fires.length fc], blk b1 51 [.slice pa 1 pc, .slice none 0 0]]) en_60 rfl ?_ ?_
    · intro w hs
      have h9 := cfunc_int pa pc [m] 70 [.pointer (some ⟨b3, 0, none⟩)] (fun i => !decide (i ∈ fires)) w0 w _ (fun w hs => hP.later hs.below) (by show (1 : Nat) ≤ 1000000; decide) en_70 (fun x _ w hs => nmet_c b3 b2 fa fc fires x w (Ro.ofB hs .here) (Ro.ofB hs (.there .here)) (hF.later hs.below) (by omega)) hs
      rw [show ([m] : List Int).any (fun i => !decide (i ∈ fires)) = false by simp [hm]] at h9
      exact h9.mono fun e w' h => ⟨(), h.1, h.2⟩
    intro _
    refine Ops.q (q_not rfl) ?_
    refine Ops.q (q_mv rfl) ?_
    refine Ops.q (q_fa fo_51_1 rfl) ?_
    refine Ops.q (q_ldB isA_31 rfl .p2 rfl) ?_
    refine Ops.q (q_ldB isA_104 rfl .here rfl) ?_
    refine Ops.cm (α := Unit) (v := fun _ => .bool false) (A' := fun _ => [blk b3 104 [.func (.func 69) #[] #[.pointer (some ⟨b2, 0, none⟩)]], blk b2 31 [.slice fa fires.length fc], blk b1 51 [.slice pa 1 pc, .slice none 0 0]]) en_60 rfl (fun w hs => (cfunc_int none 0 [] 69 [.pointer (some ⟨b2, 0, none⟩)] (fun i => decide (i ∈ fires)) w0 w _ (fun w hs => Ro.nil _ _) (by decide) en_69 (fun x hx => by cases hx) hs).mono fun e w' h => ⟨(), h.1, h.2⟩) ?_
    intro _
    refine Ops.q (q_not rfl) ?_
    refine Ops.q (q_pickT rfl rfl) ?_
    refine Ops.q (q_asg rfl) ?_
    refine Ops.to rfl ?_
    refine Cd.rt (fn := Tryz.f32) [.bool true] (by with_reducible repeat (first | exact rq_here | apply rq_then | apply rq_block)) rfl ⟨rfl, trivial⟩ ?_
    intro w' hs'
    exact ⟨by simp [hm]; rfl, hs'.none⟩
  · refine Ops.cm (α := Unit) (v := fun _ => .bool true) (A' := fun _ => [blk b3 104 [.func (.func 69) #[] #[.pointer (some ⟨b2, 0, none⟩)]], blk b2 31 [.slice fa fires.length fc], blk b1 51 [.slice pa 1 pc, .slice none 0 0]]) en_60 rfl ?_ ?_
    · intro w hs
      have h9 := cfunc_int pa pc [m] 70 [.pointer (some ⟨b3, 0, none⟩)] (fun i => !decide (i ∈ fires)) w0 w _ (fun w hs => hP.later hs.below) (by show (1 : Nat) ≤ 1000000; decide) en_70 (fun x _ w hs => nmet_c b3 b2 fa fc fires x w (Ro.ofB hs .here) (Ro.ofB hs (.there .here)) (hF.later hs.below) (by omega)) hs
      rw [show ([m] : List Int).any (fun i => !decide (i ∈ fires)) = true by simp [hm]] at h9
      exact h9.mono fun e w' h => ⟨(), h.1, h.2⟩
    intro _
    refine Ops.q (q_not rfl) ?_
    refine Ops.q (q_mv rfl) ?_
    refine Ops.sk ?_
    refine Ops.sk ?_
    refine Ops.sk ?_
    refine Ops.sk ?_
    refine Ops.sk ?_
    refine Ops.q (q_pickF rfl rfl) ?_
    refine Ops.q (q_asg rfl) ?_
    refine Ops.to rfl ?_
    refine Cd.rt (fn := Tryz.f32) [.bool false] (by with_reducible repeat (first | exact rq_here | apply rq_then | apply rq_block)) rfl ⟨rfl, trivial⟩ ?_
    intro w' hs'
    exact ⟨by simp [hm]; rfl, hs'.none⟩
end Go.Proofs.YtilcdghliigngaaGreatDoor
namespace Go.Proofs.YtilcdghliigngaaGreatDoor
open Go.RowKit Go.Proofs.YtilcdghliigngaaGreatDoorGl Go.Proofs.YtilcdghliigngaaGreatDoorPm
set_option linter.unusedVariables false
set_option linter.unusedSimpArgs false
def kn (evs : List Evt) (t : Nat) : List Int := (evs.filter fun e => decide (e.tick = (t : Int))).map (·.id)
theorem kn_yes {evs : List Evt} {t k : Nat} {x : Evt} (hx : evs[k]? = some x) (h : x.tick = (t : Int)) : kn (evs.take (k + 1)) t = kn (evs.take k) t ++ [x.id] := by
  unfold kn
  rw [take_get hx, List.filter_append, List.map_append]
  simp [h]
theorem kn_no {evs : List Evt} {t k : Nat} {x : Evt} (hx : evs[k]? = some x) (h : ¬ x.tick = (t : Int)) : kn (evs.take (k + 1)) t = kn (evs.take k) t := by
  unfold kn
  rw [take_get hx, List.filter_append, List.map_append]
  simp [h]
theorem kn_len (evs : List Evt) (t : Nat) : (kn evs t).length ≤ evs.length := by
  unfold kn
  rw [List.length_map]; exact List.length_filter_le _ _
def sB {α : Type} (I0 : List Atom) (I1 : α → List Atom) : Option α → List Atom | none => I0 | some x => I1 x
def sN {α : Type} : Option α → Int | none => 0 | some _ => 1
def sO {α : Type} : Option α → Nat | none => 1 | some _ => 0
theorem choices_c (ea : Option Addr) (ec : Nat) (evs : List Evt) (t : Nat) (w : World) : Calls Tryz.prog 34 [.agg [.slice none 0 0, .slice ea evs.length ec, .int .i64 0].toArray, .int .i64 (t : Int), .int .i64 0].toArray w fun e w' => ∃ x : Nat × Nat × Nat, e = .returned (.func (.func 71) #[] #[.pointer (some ⟨x.1, 0, none⟩), .pointer (some ⟨x.2.1, 0, none⟩), .pointer (some ⟨x.2.2, 0, none⟩)]) ∧ Sat w w' [blk x.1 49 [.slice none 0 0, .slice ea evs.length ec, .int .i64 0], blk x.2.1 3 [.int .i64 (t : Int)], blk x.2.2 3 [.int .i64 0]] := by
  refine fstart Tryz.func34 rfl rfl (Sat.nil w) ?_
  refine Cd.seq ?_
  refine Cd.region ?_
  refine Ops.box [.slice none 0 0, .slice ea evs.length ec, .int .i64 0] rfl rfl ?_
  intro b1
  refine Ops.box [.int .i64 (t : Int)] rfl rfl ?_
  intro b2
  refine Ops.box [.int .i64 0] rfl rfl ?_
  intro b3
  refine Ops.q (q_asg rfl) ?_
  refine Ops.to rfl ?_
  refine Cd.seq ?_
  refine Cd.region ?_
  refine Ops.q (q_mkf rfl rfl) ?_
  refine Ops.q (q_asg rfl) ?_
  refine Ops.to rfl ?_
  refine Cd.rt (fn := Tryz.f34) [.func (.func 71) #[] #[.pointer (some ⟨b1, 0, none⟩), .pointer (some ⟨b2, 0, none⟩), .pointer (some ⟨b3, 0, none⟩)]] (by with_reducible repeat (first | exact rq_here | apply rq_then | apply rq_block)) rfl ⟨rfl, trivial⟩ ?_
  intro w' hs'
  exact ⟨(b1, b2, b3), rfl, (((hs'.pull .here).pull (.there .here)).pull .p2)⟩
theorem choices_it (b1 b2 b3 : Nat) (ea : Option Addr) (ec : Nat) (evs : List Evt) (t : Nat) (w0 : World) (hE : RoL w0 ea eEvt evs) (hel : evs.length ≤ 1000) (hp : (kn evs t).Pairwise (· < ·)) (hkl : (kn evs t).length ≤ 12) : Iter1 Tryz.prog 71 [.pointer (some ⟨b1, 0, none⟩), .pointer (some ⟨b2, 0, none⟩), .pointer (some ⟨b3, 0, none⟩)] (fun x : Option Addr × Nat => [.slice x.1 (kn evs t).length x.2, .int .i64 0]) (fun x => row x.1 x.2 3 1 (kn evs t).length ((kn evs t).flatMap eInt)) w0 [blk b1 49 [.slice none 0 0, .slice ea evs.length ec, .int .i64 0], blk b2 3 [.int .i64 (t : Int)], blk b3 3 [.int .i64 0]] := by
  intro I0 I1 l w hy hs
  refine fstart Tryz.func71 rfl rfl hs ?_
  refine Cd.seq ?_
  refine Cd.region ?_
  refine Ops.q (q_asg rfl) ?_
  refine Ops.to rfl ?_
  refine Cd.seq ?_
  refine Cd.seq ?_
  refine Cd.region ?_
  refine Ops.q (q_fa fo_49_1 rfl) ?_
  refine Ops.q (q_ldB isA_43 rfl (.there .here) rfl) ?_
  refine Ops.q (q_len esz_43 rfl) ?_
  refine Ops.q (q_mv rfl) ?_
  refine Ops.to rfl ?_
  refine Cd.block ?_
  refine Cd.lp (σ := Nat × Option Addr × Nat) (fun s => s.1 ≤ evs.length) (fun s => [(0, .func (.yield l) #[] #[]), (1, .pointer (some ⟨b1, 0, none⟩)), (2, .pointer (some ⟨b2, 0, none⟩)), (3, .pointer (some ⟨b3, 0, none⟩)), (14, .slice ea evs.length ec), (15, .int .i64 (evs.length : Int)), (5, .slice s.2.1 ((kn (evs.take s.1) t).length) s.2.2), (16, .int .i64 (s.1 : Int))]) (fun s => [row s.2.1 s.2.2 3 1 ((kn (evs.take s.1) t).length) ((kn (evs.take s.1) t).flatMap eInt), bun I0, blk b1 49 [.slice none 0 0, .slice ea evs.length ec, .int .i64 0], blk b2 3 [.int .i64 (t : Int)], blk b3 3 [.int .i64 0]]) (fun s => evs.length - s.1) (0, none, 0) (Nat.zero_le _) ⟨rfl, rfl, rfl, rfl, rfl, rfl, rfl, rfl, trivial⟩ (fun _ hs => hs.nilRow 3 1) ?_
  rintro ⟨k, pa, pc⟩ hI
  dsimp only at hI
  change Cd _ _ _ _ _ _ _ [(0, .func (.yield l) #[] #[]), (1, .pointer (some ⟨b1, 0, none⟩)), (2, .pointer (some ⟨b2, 0, none⟩)), (3, .pointer (some ⟨b3, 0, none⟩)), (14, .slice ea evs.length ec), (15, .int .i64 (evs.length : Int)), (5, .slice pa ((kn (evs.take k) t).length) pc), (16, .int .i64 (k : Int))] ([row pa pc 3 1 ((kn (evs.take k) t).length) ((kn (evs.take k) t).flatMap eInt), bun I0, blk b1 49 [.slice none 0 0, .slice ea evs.length ec, .int .i64 0], blk b2 3 [.int .i64 (t : Int)], blk b3 3 [.int .i64 0]])
  have hkl' := kn_len (evs.take k) t
  rw [List.length_take] at hkl'
  refine Cd.seq ?_
  refine Cd.region ?_
  by_cases hk : (k : Int) < (evs.length : Int)
  · refine Ops.q (q_cmp rfl rfl (c_lt hk)) ?_
    obtain ⟨x1, hx2⟩ : ∃ x, evs[k]? = some x := ⟨_, List.getElem?_eq_getElem (by omega)⟩
    obtain ⟨ab3, ao4, rfl⟩ := RoL.pos hE eEvt_len hx2
    refine Ops.to rfl ?_
    refine Cd.seq ?_
    refine Cd.cond_t rfl ?_
    refine Cd.skipTo rfl ?_
    refine Cd.seq ?_
    refine Cd.block ?_
    refine Cd.seq ?_
    refine Cd.region ?_
    refine Ops.q (q_ix (k := k) esz_43 rfl rfl (by omega)) ?_
    refine Ops.q (q_ldRN [.int .i64 x1.tick, .int .i64 x1.id] isA_70 sz_70 rfl (fun j u hu => hE.at eEvt_len hx2 hu)) ?_
    refine Ops.alc [.int .i64 0, .int .i64 0] zc_70 ?_
    intro b5
    refine Ops.stB [.int .i64 x1.tick, .int .i64 x1.id] [.int .i64 x1.tick, .int .i64 x1.id] sz_70 rfl rfl rfl (one rfl) .here rfl rfl ?_
    refine Ops.to rfl ?_
    refine Cd.seq ?_
    refine Cd.region ?_
    refine Ops.q (q_fa fo_70_0 rfl) ?_
    refine Ops.q (q_ldB isA_3 rfl .here rfl) ?_
    refine Ops.q (q_ldB isA_3 rfl .p4 rfl) ?_
    by_cases he : x1.tick = (t : Int)
    · refine Ops.q (q_cmp rfl rfl (c_eq he)) ?_
      refine Ops.to rfl ?_
      refine Cd.cond_t rfl ?_
      refine Cd.region ?_
      refine Ops.q (q_mv rfl) ?_
      refine Ops.q (q_fa fo_70_1 rfl) ?_
      refine Ops.q (q_ldB isA_3 rfl .here rfl) ?_
      refine Ops.lit [.int .i64 x1.id] el_31 zsb_3 rfl rfl ⟨by decide, by decide⟩ rfl ?_
      intro b6
      refine Ops.app (news := [.int .i64 x1.id]) el_31 zsb_3 (by decide) rfl rfl (fun _ hs => hs.ownRo .here) (fun _ hs => (hs.pull .here).drop) (fun _ _ => (.there .here)) rfl (one rfl) (by omega) (by omega) ?_
      intro a7 c8
      refine Ops.q (q_asg rfl) ?_
      refine Ops.to rfl ?_
      refine Cd.region ?_
      refine Ops.q (q_ar rfl rfl (a_inc (by omega))) ?_
      refine Ops.q (q_mv rfl) ?_
      refine Ops.rnd ((k + 1, a7, c8)) rfl (by dsimp only; exact (by omega)) (by dsimp only; omega) ⟨rfl, rfl, rfl, rfl, rfl, rfl, (by dsimp only; rw [kn_yes hx2 he, List.length_append]; rfl), rfl, trivial⟩ (fun _ hs => by rw [kn_yes hx2 he, List.length_append, fm_app]; exact ((((((hs.pull .p5).pull .p5).pull .p5).pull .p5).pull .p5).pull .p5).drop) 
    · refine Ops.q (q_cmp rfl rfl (c_neq he)) ?_
      refine Ops.to rfl ?_
      refine Cd.cond_f rfl ?_
      refine Cd.skipTo rfl ?_
      refine Cd.region ?_
      refine Ops.q (q_ar rfl rfl (a_inc (by omega))) ?_
      refine Ops.q (q_mv rfl) ?_
      refine Ops.rnd ((k + 1, pa, pc)) rfl (by dsimp only; exact (by omega)) (by dsimp only; omega) ⟨rfl, rfl, rfl, rfl, rfl, rfl, (by dsimp only; rw [kn_no hx2 he]; rfl), rfl, trivial⟩ (fun _ hs => by rw [kn_no hx2 he]; exact ((((((hs.pull .p5).pull .p5).pull .p5).pull .p5).pull .p5).pull .p5).drop) 
  · refine Ops.q (q_cmp rfl rfl (c_nlt (by omega))) ?_
    rw [show evs.take k = evs from List.take_of_length_le (by omega)]
    refine Ops.to rfl ?_
    refine Cd.seq ?_
    refine Cd.cond_f rfl ?_
    refine Cd.exitTo rfl ?_
    refine Cd.seq ?_
    refine Cd.region ?_
    refine Ops.q (q_fa fo_49_0 rfl) ?_
    refine Ops.q (q_ldB isA_31 rfl .p2 rfl) ?_
    refine Ops.q (q_len esz_31 rfl) ?_
    refine Ops.q (q_shl0 rfl rfl (IntWalk.i64_in _ (by omega))) ?_
    refine Ops.q (q_mv rfl) ?_
    refine Ops.to rfl ?_
    refine Cd.block ?_
    refine Cd.lp (σ := Option (Option Addr × Nat)) (fun _ => True) (fun s => [(0, .func (.yield l) #[] #[]), (1, .pointer (some ⟨b1, 0, none⟩)), (2, .pointer (some ⟨b2, 0, none⟩)), (3, .pointer (some ⟨b3, 0, none⟩)), (5, .slice pa ((kn evs t).length) pc), (33, .int .i64 1), (34, .int .i64 (sN s))]) (fun s => [row pa pc 3 1 ((kn evs t).length) ((kn evs t).flatMap eInt), bun (sB I0 I1 s), blk b1 49 [.slice none 0 0, .slice ea evs.length ec, .int .i64 0], blk b2 3 [.int .i64 (t : Int)], blk b3 3 [.int .i64 0]]) sO none trivial ⟨rfl, rfl, rfl, rfl, rfl, rfl, rfl, trivial⟩ (fun _ hs => hs) ?_
    intro s hI
    rcases s with _ | x
    · change Cd _ _ _ _ _ _ _ [(0, .func (.yield l) #[] #[]), (1, .pointer (some ⟨b1, 0, none⟩)), (2, .pointer (some ⟨b2, 0, none⟩)), (3, .pointer (some ⟨b3, 0, none⟩)), (5, .slice pa ((kn evs t).length) pc), (33, .int .i64 1), (34, .int .i64 0)] ([row pa pc 3 1 ((kn evs t).length) ((kn evs t).flatMap eInt), bun I0, blk b1 49 [.slice none 0 0, .slice ea evs.length ec, .int .i64 0], blk b2 3 [.int .i64 (t : Int)], blk b3 3 [.int .i64 0]])
      refine Cd.seq ?_
      refine Cd.region ?_
      refine Ops.q (q_cmp rfl rfl (c_lt (by decide))) ?_
      refine Ops.to rfl ?_
      refine Cd.seq ?_
      refine Cd.cond_t rfl ?_
      refine Cd.skipTo rfl ?_
      refine Cd.seq ?_
      refine Cd.block ?_
      refine Cd.seq ?_
      refine Cd.region ?_
      refine Ops.q (q_mv rfl) ?_
      refine Ops.q (q_asg rfl) ?_
      refine Ops.to rfl ?_
      refine Cd.seq ?_
      refine Cd.region ?_
      refine Ops.q (q_mv rfl) ?_
      refine Ops.cl (α := Option Addr × Nat) (v := fun p => .slice p.1 (kn evs t).length p.2) (B := fun p => [row p.1 p.2 3 1 (kn evs t).length ((kn evs t).flatMap eInt)]) en_66 rfl (fun w hs => clint_c pa pc (kn evs t) w (hs.ownRo .here) (by omega)) ?_
      rintro ⟨ga, gc⟩
      refine Ops.q (q_asg rfl) ?_
      refine Ops.to rfl ?_
      refine Cd.seq ?_
      refine Cd.seq ?_
      refine Cd.region ?_
      refine Ops.q (q_fa fo_49_0 rfl) ?_
      refine Ops.q (q_ldB isA_31 rfl .p3 rfl) ?_
      refine Ops.q (q_len esz_31 rfl) ?_
      refine Ops.q (q_mv rfl) ?_
      refine Ops.to rfl ?_
      refine Cd.block ?_
      refine Cd.lp (σ := Unit) (fun _ => True) (fun _ => [(0, .func (.yield l) #[] #[]), (1, .pointer (some ⟨b1, 0, none⟩)), (2, .pointer (some ⟨b2, 0, none⟩)), (3, .pointer (some ⟨b3, 0, none⟩)), (5, .slice pa ((kn evs t).length) pc), (33, .int .i64 1), (34, .int .i64 0), (9, .slice ga ((kn evs t).length) gc), (40, .slice none 0 0), (41, .int .i64 0), (42, .int .i64 0)]) (fun _ => [row ga gc 3 1 ((kn evs t).length) ((kn evs t).flatMap eInt), row pa pc 3 1 ((kn evs t).length) ((kn evs t).flatMap eInt), bun I0, blk b1 49 [.slice none 0 0, .slice ea evs.length ec, .int .i64 0], blk b2 3 [.int .i64 (t : Int)], blk b3 3 [.int .i64 0]]) (fun _ => 0) () trivial ⟨rfl, rfl, rfl, rfl, rfl, rfl, rfl, rfl, rfl, rfl, rfl, trivial⟩ (fun _ hs => hs) ?_
      intro s hI
      refine Cd.seq ?_
      refine Cd.region ?_
      refine Ops.q (q_cmp rfl rfl (c_nlt (by decide))) ?_
      refine Ops.to rfl ?_
      refine Cd.seq ?_
      refine Cd.cond_f rfl ?_
      refine Cd.exitTo rfl ?_
      refine Cd.seq ?_
      refine Cd.region ?_
      refine Ops.q (q_mv rfl) ?_
      refine Ops.cm (α := Unit) (v := fun _ => .tuple #[]) (A' := fun _ => [row ga gc 3 1 ((kn evs t).length) ((kn evs t).flatMap eInt), row pa pc 3 1 ((kn evs t).length) ((kn evs t).flatMap eInt), bun I0, blk b1 49 [.slice none 0 0, .slice ea evs.length ec, .int .i64 0], blk b2 3 [.int .i64 (t : Int)], blk b3 3 [.int .i64 0]]) en_72 rfl (fun w hs => (sort_c ga gc (kn evs t) w0 w _ hp hkl hs).mono fun e w' h => ⟨(), h.1, h.2⟩) ?_
      intro _
      refine Ops.to rfl ?_
      refine Cd.seq ?_
      refine Cd.region ?_
      refine Ops.q (q_mv rfl) ?_
      refine Ops.q (q_len esz_31 rfl) ?_
      refine Ops.q (q_mv rfl) ?_
      refine Ops.q (q_len esz_31 rfl) ?_
      refine Ops.q (q_ar (v := 0) rfl rfl (by rw [a_sub (by omega)]; congr 1; omega)) ?_
      refine Ops.q (q_asg rfl) ?_
      refine Ops.to rfl ?_
      refine Cd.seq ?_
      refine Cd.region ?_
      refine Ops.q (q_mv rfl) ?_
      refine Ops.q (q_ldB isA_3 rfl .p5 rfl) ?_
      refine Ops.q (q_cmp rfl rfl (c_le (by decide))) ?_
      refine Ops.q (q_mv rfl) ?_
      refine Ops.q (q_mv rfl) ?_
      refine Ops.q (q_mv rfl) ?_
      refine Ops.q (q_mv rfl) ?_
      refine Ops.yl (vs := [.slice ga (kn evs t).length gc, .int .i64 0]) (A' := [bun (I1 (ga, gc)), row pa pc 3 1 ((kn evs t).length) ((kn evs t).flatMap eInt), blk b1 49 [.slice none 0 0, .slice ea evs.length ec, .int .i64 0], blk b2 3 [.int .i64 (t : Int)], blk b3 3 [.int .i64 0]]) rfl rfl (fun w hs => hy ([row pa pc 3 1 ((kn evs t).length) ((kn evs t).flatMap eInt), blk b1 49 [.slice none 0 0, .slice ea evs.length ec, .int .i64 0], blk b2 3 [.int .i64 (t : Int)], blk b3 3 [.int .i64 0]]) (ga, gc) w (((((((hs.pull .p5).pull .p5).pull .p5).pull .p4).pull .p4).pull .p5))) ?_
      refine Ops.q (q_not rfl) ?_
      refine Ops.q (q_pickT rfl rfl) ?_
      refine Ops.to rfl ?_
      refine Cd.cond_f rfl ?_
      refine Cd.skipTo rfl ?_
      refine Cd.region ?_
      refine Ops.q (q_ar (v := 1) rfl rfl (a_add (by decide))) ?_
      refine Ops.q (q_mv rfl) ?_
      refine Ops.rnd (some (ga, gc)) rfl trivial (Nat.lt_succ_self 0) ⟨rfl, rfl, rfl, rfl, rfl, rfl, rfl, trivial⟩ (fun _ hs => (((((hs.pull .p4).pull .p4).pull .p4).pull .p3).pull .p4))
    · change Cd _ _ _ _ _ _ _ [(0, .func (.yield l) #[] #[]), (1, .pointer (some ⟨b1, 0, none⟩)), (2, .pointer (some ⟨b2, 0, none⟩)), (3, .pointer (some ⟨b3, 0, none⟩)), (5, .slice pa ((kn evs t).length) pc), (33, .int .i64 1), (34, .int .i64 1)] ([row pa pc 3 1 ((kn evs t).length) ((kn evs t).flatMap eInt), bun (I1 x), blk b1 49 [.slice none 0 0, .slice ea evs.length ec, .int .i64 0], blk b2 3 [.int .i64 (t : Int)], blk b3 3 [.int .i64 0]])
      refine Cd.seq ?_
      refine Cd.region ?_
      refine Ops.q (q_cmp rfl rfl (c_nlt (by decide))) ?_
      refine Ops.to rfl ?_
      refine Cd.seq ?_
      refine Cd.cond_f rfl ?_
      refine Cd.exitFin (fn := Tryz.f71) (by with_reducible repeat (first | exact xq_here | apply xq_then | apply xq_block | apply nq_block)) rfl ?_
      intro w' hs'
      exact ⟨rfl, x, (((((hs'.pull .p4).pull .p4).pull .p4).pull .p4).pull .p4).drop⟩
end Go.Proofs.YtilcdghliigngaaGreatDoor
namespace Go.Proofs.YtilcdghliigngaaGreatDoor
open Go.RowKit Go.Proofs.YtilcdghliigngaaGreatDoorGl Go.Proofs.YtilcdghliigngaaGreatDoorPm
set_option linter.unusedVariables false
set_option linter.unusedSimpArgs false
theorem uB_5 : uB Tryz.prog 5 = true := by kernel_rfl
theorem ext_size (s : ByteArray) (a b : Nat) : (s.extract a b).size ≤ b - a := by
  rw [ByteArray.size_extract]; omega
section
variable {P : Program} {r : Option Nat} {ops : Array Oper} {Q : Exit → Act → World → Prop} {w0 : World} {n : Nat} {D : List Deferred} {rest : List Oper} {L : Env} {A : List Atom}
variable {t : Nat} {ty : TypeId} {pos : String} {af : Array Edge} {g : Option (Nat × Bool)}
theorem Ops.cutS {T : TypeId} {x y z : Operand} {s : ByteArray} {lo hi : Nat} {k1 k2 : IntKind} (hT : sK P T = true) (hx : ev L x = some (.string s)) (hy : ev L y = some (.int k1 (lo : Int))) (hz : ev L z = some (.int k2 (hi : Int))) (h1 : lo ≤ hi) (h2 : hi ≤ s.size)
    (h : ∀ s' : ByteArray, s'.size ≤ hi - lo → Ops P r ops Q w0 n D rest ((t, .string s') :: L) A) (hg : gd ops L ⟨some t, .slice T x (some y) (some z) none, ty, pos, af, g⟩ = some true := by rfl) (ht : Nat.blt t n = true := by rfl) :
    Ops P r ops Q w0 n D (⟨some t, .slice T x (some y) (some z) none, ty, pos, af, g⟩ :: rest) L A := Ops.q (q_cutS hT hx hy hz h1 h2) (h _ (ext_size _ _ _)) hg ht
theorem Ops.appsL {x y : Operand} {T U E : TypeId} {l : List UInt8} {cap : Nat} {a : Option Addr} {s : ByteArray} {A' : Option Addr → Nat → List UInt8 → List Atom} (hT : elT P T = some E) (hU : sK P U = true) (hE : uB P E = true)
    (hx : ev L x = some (.slice a l.length cap)) (hy : ev L y = some (.string s)) (hu : ∀ a' c' l', Upd A (row a cap E 1 l.length (bytesV l)) (row a' c' E 1 l'.length (bytesV l')) (A' a' c' l')) (hb : l.length + s.size ≤ 1000000)
    (h : ∀ a' c' l', l'.length ≤ l.length + s.size → Ops P r ops Q w0 n D rest ((t, .slice a' l'.length c') :: L) (A' a' c' l'))
    (hg : gd ops L ⟨some t, .call ⟨.builtin .append, #[x, y], #[T, U]⟩, ty, pos, af, g⟩ = some true := by rfl) (ht : Nat.blt t n = true := by rfl) :
    Ops P r ops Q w0 n D (⟨some t, .call ⟨.builtin .append, #[x, y], #[T, U]⟩, ty, pos, af, g⟩ :: rest) L A :=
  Ops.apps (A' := fun a' c' => A' a' c' (l ++ s.data.toList)) hT hU hE hx hy (fun a' c' => by
    have h1 := hu a' c' (l ++ s.data.toList)
    rw [bytesV_app, List.length_append] at h1
    exact h1) hb (fun a' c' => by
    have h1 := h a' c' (l ++ s.data.toList) (by rw [List.length_append]; exact Nat.le_refl _)
    rw [List.length_append] at h1
    exact h1) hg ht
end
abbrev Bts := Option Addr × Nat × List UInt8
def AppR (k : Nat) (l : List UInt8) (w0 : World) (F : List Atom) (e : Ending) (w' : World) : Prop := ∃ x : Bts, e = .returned (.slice x.1 x.2.2.length x.2.1) ∧ x.2.2.length ≤ l.length + k ∧ Sat w0 w' (row x.1 x.2.1 5 1 x.2.2.length (bytesV x.2.2) :: F)
theorem small_c (n : Nat) (w : World) (hn : n ≤ 99) : Calls Tryz.prog 148 [.int .i64 (n : Int)].toArray w fun e w' => ∃ s : ByteArray, s.size ≤ 2 ∧ e = .returned (.string s) ∧ Sat w w' [] := by
  refine fstart Tryz.func148 rfl rfl (Sat.nil w) ?_
  refine Cd.seq ?_
  refine Cd.region ?_
  refine Ops.q (q_asg rfl) ?_
  refine Ops.to rfl ?_
  refine Cd.seq ?_
  refine Cd.seq ?_
  refine Cd.region ?_
  refine Ops.q (q_mv rfl) ?_
  by_cases h10 : (n : Int) < 10
  · refine Ops.q (q_cmp rfl rfl (c_lt h10)) ?_
    refine Ops.to rfl ?_
    refine Cd.cond_t rfl ?_
    refine Cd.seq ?_
    refine Cd.region ?_
    refine Ops.q (q_mv rfl) ?_
    refine Ops.q (q_mv rfl) ?_
    refine Ops.q (q_ar rfl rfl (a_inc (by omega))) ?_
    refine Ops.cutS (lo := n) (hi := n + 1) sK_9 rfl rfl rfl (by omega) (Nat.le_trans (show n + 1 ≤ 10 by omega) (Nat.le_of_ble_eq_true (by kernel_rfl))) ?_
    intro s' hs9
    refine Ops.q (q_asg rfl) ?_
    refine Ops.to rfl ?_
    refine Cd.rt (fn := Tryz.f148) [.string s'] (by with_reducible repeat (first | exact rq_here | apply rq_then | apply rq_block)) rfl ⟨rfl, trivial⟩ ?_
    intro w' hs'
    exact ⟨s', by omega, rfl, hs'.none⟩
  · refine Ops.q (q_cmp rfl rfl (c_nlt (by omega))) ?_
    refine Ops.to rfl ?_
    refine Cd.cond_f rfl ?_
    refine Cd.skipTo rfl ?_
    refine Cd.seq ?_
    refine Cd.region ?_
    refine Ops.q (q_mv rfl) ?_
    refine Ops.q (q_ar (v := ((n * 2 : Nat) : Int)) rfl rfl (a_mulN (k := 2) (by omega))) ?_
    refine Ops.q (q_mv rfl) ?_
    refine Ops.q (q_ar (v := ((n * 2 : Nat) : Int)) rfl rfl (a_mulN (k := 2) (by omega))) ?_
    refine Ops.q (q_ar (v := ((n * 2 + 2 : Nat) : Int)) rfl rfl (a_addN (k := 2) (by omega))) ?_
    refine Ops.cutS (lo := n * 2) (hi := n * 2 + 2) sK_9 rfl rfl rfl (by omega) (Nat.le_trans (show n * 2 + 2 ≤ 200 by omega) (Nat.le_of_ble_eq_true (by kernel_rfl))) ?_
    intro s' hs9
    refine Ops.q (q_asg rfl) ?_
    refine Ops.to rfl ?_
    refine Cd.rt (fn := Tryz.f148) [.string s'] (by with_reducible repeat (first | exact rq_here | apply rq_then | apply rq_block)) rfl ⟨rfl, trivial⟩ ?_
    intro w' hs'
    exact ⟨s', by omega, rfl, hs'.none⟩
theorem appU_c (n : Nat) (a : Option Addr) (c : Nat) (l : List UInt8) (w0 w : World) (F : List Atom) (hl : l.length ≤ 900000) (hs : Sat w0 w (row a c 5 1 l.length (bytesV l) :: F)) (hn : n ≤ 99) : Calls Tryz.prog 135 [.slice a l.length c, .int .u64 (n : Int), .int .i64 10].toArray w (AppR 2 l w0 F) := by
  refine fstart Tryz.func135 rfl rfl hs ?_
  refine Cd.seq ?_
  refine Cd.region ?_
  refine Ops.q (q_asg rfl) ?_
  refine Ops.to rfl ?_
  refine Cd.seq ?_
  refine Cd.seq ?_
  refine Cd.region ?_
  refine Ops.q (q_mv rfl) ?_
  refine Ops.q (q_cmp rfl rfl (c_eq (by decide))) ?_
  refine Ops.to rfl ?_
  refine Cd.cond_t rfl ?_
  refine Cd.seq ?_
  refine Cd.seq ?_
  refine Cd.region ?_
  refine Ops.q (q_mv rfl) ?_
  refine Ops.q (q_cmp rfl rfl (c_lt (by omega))) ?_
  refine Ops.to rfl ?_
  refine Cd.cond_t rfl ?_
  refine Cd.seq ?_
  refine Cd.region ?_
  refine Ops.q (q_mv rfl) ?_
  refine Ops.q (q_mv rfl) ?_
  refine Ops.q (q_conv iK_23 iK_3 rfl (IntWalk.i64_in _ (by omega))) ?_
  refine Ops.cl (α := {s : ByteArray // s.size ≤ 2}) (v := fun s => .string s.1) (B := fun _ => []) en_148 rfl (fun w hs => (small_c n w hn).mono fun e w' ⟨s, h1, h2, h3⟩ => ⟨⟨s, h1⟩, h2, h3⟩) ?_
  rintro ⟨s, hs2⟩
  refine Ops.appsL (l := l) el_22 sK_9 uB_5 rfl rfl (fun _ _ _ => .here) (by show l.length + s.size ≤ 1000000; omega) ?_
  intro a2 c2 l2 hl2
  have hl2 : l2.length ≤ l.length + s.size := hl2
  refine Ops.q (q_asg rfl) ?_
  refine Ops.to rfl ?_
  refine Cd.rt (fn := Tryz.f135) [.slice a2 l2.length c2] (by with_reducible repeat (first | exact rq_here | apply rq_then | apply rq_block)) rfl ⟨rfl, trivial⟩ ?_
  intro w' hs'
  exact ⟨(a2, c2, l2), rfl, by dsimp only; omega, hs'⟩
theorem appI_c (n : Nat) (a : Option Addr) (c : Nat) (l : List UInt8) (w0 w : World) (F : List Atom) (hl : l.length ≤ 900000) (hs : Sat w0 w (row a c 5 1 l.length (bytesV l) :: F)) (hn : n ≤ 99) : Calls Tryz.prog 104 [.slice a l.length c, .int .i64 (n : Int), .int .i64 10].toArray w (AppR 2 l w0 F) := by
  refine fstart Tryz.func104 rfl rfl hs ?_
  refine Cd.seq ?_
  refine Cd.region ?_
  refine Ops.q (q_asg rfl) ?_
  refine Ops.to rfl ?_
  refine Cd.seq ?_
  refine Cd.region ?_
  refine Ops.q (q_mv rfl) ?_
  refine Ops.q (q_conv iK_2 iK_23 rfl (IntWalk.u64_in _ (by omega))) ?_
  refine Ops.q (q_asg rfl) ?_
  refine Ops.to rfl ?_
  refine Cd.seq ?_
  refine Cd.seq ?_
  refine Cd.region ?_
  refine Ops.q (q_mv rfl) ?_
  refine Ops.q (q_cmp rfl rfl (c_nlt (by omega))) ?_
  refine Ops.to rfl ?_
  refine Cd.cond_f rfl ?_
  refine Cd.skipTo rfl ?_
  refine Cd.seq ?_
  refine Cd.region ?_
  refine Ops.q (q_mv rfl) ?_
  refine Ops.q (q_mv rfl) ?_
  refine Ops.q (q_mv rfl) ?_
  refine Ops.cm (α := {x : Bts // x.2.2.length ≤ l.length + 2}) (v := fun x => .slice x.1.1 x.1.2.2.length x.1.2.1) (A' := fun x => row x.1.1 x.1.2.1 5 1 x.1.2.2.length (bytesV x.1.2.2) :: F) en_135 rfl (fun w hs => (appU_c n a c l w0 w F (by omega) ((hs.pull .here)) hn).mono fun e w' ⟨x, h1, h2, h3⟩ => ⟨⟨x, h2⟩, h1, h3⟩) ?_
  rintro ⟨⟨a1, c2, l3⟩, hl3⟩
  dsimp only at hl3
  refine Ops.q (q_asg rfl) ?_
  refine Ops.to rfl ?_
  refine Cd.rt (fn := Tryz.f104) [.slice a1 l3.length c2] (by with_reducible repeat (first | exact rq_here | apply rq_then | apply rq_block)) rfl ⟨rfl, trivial⟩ ?_
  intro w' hs'
  exact ⟨(a1, c2, l3), rfl, by dsimp only; omega, (hs'.pull .here)⟩
theorem appI2_c (n : Nat) (a : Option Addr) (c : Nat) (l : List UInt8) (w0 w : World) (F : List Atom) (hl : l.length ≤ 900000) (hs : Sat w0 w (row a c 5 1 l.length (bytesV l) :: F)) (hn : n ≤ 99) : Calls Tryz.prog 75 [.slice a l.length c, .int .i64 (n : Int), .int .i64 10].toArray w (AppR 2 l w0 F) := by
  refine fstart Tryz.func75 rfl rfl hs ?_
  refine Cd.seq ?_
  refine Cd.region ?_
  refine Ops.q (q_asg rfl) ?_
  refine Ops.to rfl ?_
  refine Cd.seq ?_
  refine Cd.region ?_
  refine Ops.q (q_mv rfl) ?_
  refine Ops.q (q_mv rfl) ?_
  refine Ops.q (q_mv rfl) ?_
  refine Ops.cm (α := {x : Bts // x.2.2.length ≤ l.length + 2}) (v := fun x => .slice x.1.1 x.1.2.2.length x.1.2.1) (A' := fun x => row x.1.1 x.1.2.1 5 1 x.1.2.2.length (bytesV x.1.2.2) :: F) en_104 rfl (fun w hs => (appI_c n a c l w0 w F (by omega) ((hs.pull .here)) hn).mono fun e w' ⟨x, h1, h2, h3⟩ => ⟨⟨x, h2⟩, h1, h3⟩) ?_
  rintro ⟨⟨a1, c2, l3⟩, hl3⟩
  dsimp only at hl3
  refine Ops.q (q_asg rfl) ?_
  refine Ops.to rfl ?_
  refine Cd.rt (fn := Tryz.f75) [.slice a1 l3.length c2] (by with_reducible repeat (first | exact rq_here | apply rq_then | apply rq_block)) rfl ⟨rfl, trivial⟩ ?_
  intro w' hs'
  exact ⟨(a1, c2, l3), rfl, by dsimp only; omega, (hs'.pull .here)⟩
theorem appB_c (a : Option Addr) (c : Nat) (l : List UInt8) (w0 w : World) (F : List Atom) (hl : l.length ≤ 900000) (hs : Sat w0 w (row a c 5 1 l.length (bytesV l) :: F)) : Calls Tryz.prog 105 [.slice a l.length c, .bool true].toArray w (AppR 4 l w0 F) := by
  refine fstart Tryz.func105 rfl rfl hs ?_
  refine Cd.seq ?_
  refine Cd.region ?_
  refine Ops.q (q_asg rfl) ?_
  refine Ops.to rfl ?_
  refine Cd.seq ?_
  refine Cd.seq ?_
  refine Cd.region ?_
  refine Ops.q (q_mv rfl) ?_
  refine Ops.to rfl ?_
  refine Cd.cond_t rfl ?_
  refine Cd.seq ?_
  refine Cd.region ?_
  refine Ops.q (q_mv rfl) ?_
  refine Ops.appsL (l := l) el_22 sK_9 uB_5 rfl rfl (fun _ _ _ => .here) (by show l.length + 4 ≤ 1000000; omega) ?_
  intro a2 c2 l2 hl2
  refine Ops.q (q_asg rfl) ?_
  refine Ops.to rfl ?_
  refine Cd.rt (fn := Tryz.f105) [.slice a2 l2.length c2] (by with_reducible repeat (first | exact rq_here | apply rq_then | apply rq_block)) rfl ⟨rfl, trivial⟩ ?_
  intro w' hs'
  exact ⟨(a2, c2, l2), rfl, hl2, hs'⟩
theorem appB2_c (a : Option Addr) (c : Nat) (l : List UInt8) (w0 w : World) (F : List Atom) (hl : l.length ≤ 900000) (hs : Sat w0 w (row a c 5 1 l.length (bytesV l) :: F)) : Calls Tryz.prog 76 [.slice a l.length c, .bool true].toArray w (AppR 4 l w0 F) := by
  refine fstart Tryz.func76 rfl rfl hs ?_
  refine Cd.seq ?_
  refine Cd.region ?_
  refine Ops.q (q_asg rfl) ?_
  refine Ops.to rfl ?_
  refine Cd.seq ?_
  refine Cd.region ?_
  refine Ops.q (q_mv rfl) ?_
  refine Ops.q (q_mv rfl) ?_
  refine Ops.cm (α := {x : Bts // x.2.2.length ≤ l.length + 4}) (v := fun x => .slice x.1.1 x.1.2.2.length x.1.2.1) (A' := fun x => row x.1.1 x.1.2.1 5 1 x.1.2.2.length (bytesV x.1.2.2) :: F) en_105 rfl (fun w hs => (appB_c a c l w0 w F (by omega) ((hs.pull .here))).mono fun e w' ⟨x, h1, h2, h3⟩ => ⟨⟨x, h2⟩, h1, h3⟩) ?_
  rintro ⟨⟨a1, c2, l3⟩, hl3⟩
  dsimp only at hl3
  refine Ops.q (q_asg rfl) ?_
  refine Ops.to rfl ?_
  refine Cd.rt (fn := Tryz.f76) [.slice a1 l3.length c2] (by with_reducible repeat (first | exact rq_here | apply rq_then | apply rq_block)) rfl ⟨rfl, trivial⟩ ?_
  intro w' hs'
  exact ⟨(a1, c2, l3), rfl, by dsimp only; omega, (hs'.pull .here)⟩
def KeyR (kb : Nat) (l : List UInt8) (w0 : World) (F : List Atom) (e : Ending) (w' : World) : Prop := ∃ x : Bts, e = .returned (.tuple #[]) ∧ (1 ≤ x.2.2.length ∧ x.2.2.length ≤ l.length + 3) ∧ Sat w0 w' (blk kb 22 [.slice x.1 x.2.2.length x.2.1] :: row x.1 x.2.1 5 1 x.2.2.length (bytesV x.2.2) :: F)
theorem key1_c (n kb : Nat) (a : Option Addr) (c : Nat) (l : List UInt8) (w0 w : World) (F : List Atom) (hn : n ≤ 99) (hl : l.length ≤ 800000) (hs : Sat w0 w (blk kb 22 [.slice a l.length c] :: row a c 5 1 l.length (bytesV l) :: F)) : Calls Tryz.prog 74 [.int .i64 (n : Int), .pointer (some ⟨kb, 0, none⟩)].toArray w (KeyR kb l w0 F) := by
  refine fstart Tryz.func74 rfl rfl hs ?_
  refine Cd.region ?_
  refine Ops.q (q_ldB isA_22 rfl .here rfl) ?_
  refine Ops.q (q_mv rfl) ?_
  refine Ops.cm (α := {x : Bts // x.2.2.length ≤ l.length + 2}) (v := fun x => .slice x.1.1 x.1.2.2.length x.1.2.1) (A' := fun x => row x.1.1 x.1.2.1 5 1 x.1.2.2.length (bytesV x.1.2.2) :: blk kb 22 [.slice a l.length c] :: F) en_75 rfl (fun w hs => (appI2_c n a c l w0 w (blk kb 22 [.slice a l.length c] :: F) (by omega) (((hs.pull .here).pull (.there .here))) hn).mono fun e w' ⟨x, h1, h2, h3⟩ => ⟨⟨x, h2⟩, h1, h3⟩) ?_
  rintro ⟨⟨a1, c2, l3⟩, hl3⟩
  dsimp only at hl3
  refine Ops.lit [.int .u8 32] el_22 zsb_5 rfl rfl ⟨by decide, by decide⟩ rfl ?_
  intro b4
  refine Ops.app (news := [.int .u8 32]) el_22 zsb_5 (by decide) rfl rfl (fun _ hs => hs.ownRo .here) (fun _ hs => (hs.pull .here).drop) (fun _ _ => .here) rfl (one rfl) (by show (l3.length + 1) * 1 ≤ 140737488355328; omega) (by show l3.length + 1 ≤ 140737488355328; omega) ?_
  intro a5 c6
  refine Ops.stB [.slice a5 (l3.length + 1) c6] [.slice a5 (l3.length + 1) c6] sz_22 rfl rfl rfl (one rfl) (.there .here) rfl rfl ?_
  refine Ops.fin rfl rfl ?_
  intro w' hs'
  have e1 : bytesV l3 ++ [.int .u8 32] = bytesV (l3 ++ [32]) := by rw [bytesV_app]; rfl
  rw [e1] at hs'
  exact ⟨(a5, c6, l3 ++ [32]), rfl, ⟨by simp, by simp; omega⟩, by rw [List.length_append]; exact ((hs'.pull .here).pull (.there .here))⟩
end Go.Proofs.YtilcdghliigngaaGreatDoor
namespace Go.Proofs.YtilcdghliigngaaGreatDoor
open Go.RowKit Go.Proofs.YtilcdghliigngaaGreatDoorGl Go.Proofs.YtilcdghliigngaaGreatDoorPm
set_option linter.unusedVariables false
set_option linter.unusedSimpArgs false
theorem lsn_fm {n : Nat} {v : List Int} (hv : v.length = n) (ls : List NL) (a : Option Addr) (c : Nat) : ls.flatMap eNL ++ [.slice a n c] = (ls ++ [((a, c), v)]).flatMap eNL := by
  rw [fm_app, ← hv]; rfl
abbrev ImgS := Option Addr × Nat × Option Addr × Nat × List NL
theorem image_c (S : Nat) (na : Option Addr) (nc : Nat) (sa : Option Addr) (sc : Nat) (ns : List Prm) (ip : Int) (ss : List Syn) (M : Nat) (E : List WEnt) (now B BC : Nat) (sts : List Stt) (q : List Cp.RQ) (F : List Atom) (w0 w : World) (hn0 : 0 < ns.length) (hn : ns.length ≤ 1024) (hst : sts.length = ns.length) (hq : Cp.ringOK ns.length q) (hqv : ∀ x ∈ q, ∀ v ∈ x.2, 0 ≤ v ∧ v ≤ 99) (hnow : now ≤ 10000) (hs : Sat w0 w (Cp.simA S na nc sa sc ns ip ss.length M E now B BC sts q F)) : Calls Tryz.prog 73 [.pointer (some ⟨S, 0, none⟩)].toArray w fun e w' => ∃ x : ImgS, e = .returned (.tuple [.agg [.int .i64 (now : Int), .slice x.1 ns.length x.2.1, .slice x.2.2.1 16 x.2.2.2.1].toArray, .int .i64 0].toArray) ∧ (x.2.2.2.2.length = 16 ∧ ∀ l ∈ x.2.2.2.2, l.2.length = ns.length ∧ ∀ v ∈ l.2, 0 ≤ v ∧ v ≤ 99) ∧ Sat w0 w' (row x.1 x.2.1 133 2 ns.length (sts.flatMap eStt) :: row x.2.2.1 x.2.2.2.1 31 1 16 (x.2.2.2.2.flatMap eNL) :: rd (LLF x.2.2.2.2) :: Cp.simA S na nc sa sc ns ip ss.length M E now B BC sts q F) := by
  refine fstart Tryz.func73 rfl rfl hs ?_
  refine Cd.seq ?_
  refine Cd.region ?_
  refine Ops.alc [.int .i64 0, .slice none 0 0, .slice none 0 0] zc_138 ?_
  intro b1
  refine Ops.q (q_asg rfl) ?_
  refine Ops.to rfl ?_
  refine Cd.seq ?_
  refine Cd.seq ?_
  refine Cd.region ?_
  refine Ops.q (q_mv rfl) ?_
  refine Ops.cm (α := Unit) (v := fun _ => .bool true) (A' := fun _ => blk S 130 (([.slice na ns.length nc, .int .i64 ip, .slice sa ss.length sc, .map (some M), .int .i64 (now : Int), .slice (some ⟨B, 0, none⟩) ns.length BC] : List Value) ++ q.map (Cp.rcell ns.length)) :: blk b1 138 [.int .i64 0, .slice none 0 0, .slice none 0 0] :: row (some ⟨B, 0, none⟩) BC 133 2 ns.length (sts.flatMap eStt) :: row na nc 62 8 ns.length (ns.flatMap ePrm) :: rd (wφ M E) :: (F ++ q.map (Cp.rrow ns.length))) en_64 rfl (fun w hs => (is_c S na ns.length nc ip sa ss.length sc M now B BC q w0 w _ hn0 (((((hs.pull .p4).pull .p4).pull .p4).pull .p3).pull .p4)).mono fun e w' h => ⟨(), h.1, h.2⟩) ?_
  intro _
  refine Ops.q (q_not rfl) ?_
  refine Ops.to rfl ?_
  refine Cd.cond_f rfl ?_
  refine Cd.skipTo rfl ?_
  refine Cd.seq ?_
  refine Cd.draw rfl (by kernel_rfl) (.cons .here .nil) ?_
  intro F2 St3 hP4 hF5 hR6
  refine Dr.q (i := 0) hP4 rfl (by kernel_rfl) (q_mv rfl) ?_
  refine Dr.q (i := 1) hP4 rfl (by kernel_rfl) (q_nck rfl) ?_
  refine Dr.q (i := 2) hP4 rfl (by kernel_rfl) (q_fa fo_130_2 rfl) ?_
  refine Dr.q (i := 3) hP4 rfl (by kernel_rfl) (q_ldB isA_3 rfl .here rfl) ?_
  refine Dr.q (i := 4) hP4 rfl (by kernel_rfl) (q_mv rfl) ?_
  refine Dr.q (i := 5) hP4 rfl (by kernel_rfl) (q_nck rfl) ?_
  refine Dr.q (i := 6) hP4 rfl (by kernel_rfl) (q_fa fo_130_3 rfl) ?_
  refine Dr.q (i := 7) hP4 rfl (by kernel_rfl) (q_ldB isA_126 rfl .here rfl) ?_
  refine Dr.e2 (i := 8) (j := 10) rfl rfl (by kernel_rfl) ?_ ?_
  · refine Ops.cl (α := Option Addr × Nat) (v := fun p => .slice p.1 ns.length p.2) (B := fun p => [row p.1 p.2 133 2 ns.length (sts.flatMap eStt)]) en_65 rfl (fun w hs => by have h9 := clstt_c (some ⟨B, 0, none⟩) BC sts w (hs.ownRo .p2) (by omega); rw [hst] at h9; exact h9) ?_
    rintro ⟨ua, uc⟩
    refine Dr.back (fun _ hs => hF5 (.there .here) hs) ?_
    refine Dr.q (i := 9) hP4 rfl (by kernel_rfl) (q_bld [.int .i64 (now : Int), .slice ua ns.length uc, .slice none 0 0] pls_138 zc_138 rfl rfl) ?_
    refine Dr.e (i := 10) rfl (by kernel_rfl) ?_
    refine Ops.alc [.int .i64 0, .slice none 0 0, .slice none 0 0] zc_138 ?_
    intro b7
    refine Dr.back (fun _ hs => hF5 .p2 hs) ?_
    refine Dr.tail 11 (by kernel_rfl) ?_
    refine Ops.sat ?_ (fun _ hs => hR6 .p2 hs)
    refine Ops.stB [.int .i64 (now : Int), .slice ua ns.length uc, .slice none 0 0] [.int .i64 (now : Int), .slice ua ns.length uc, .slice none 0 0] sz_138 rfl rfl rfl (one rfl) (.there .here) rfl rfl ?_
    refine Ops.to rfl ?_
    refine Cd.seq ?_
    refine Cd.seq ?_
    refine Cd.region ?_
    refine Ops.q (q_mv rfl) ?_
    refine Ops.to rfl ?_
    refine Cd.block ?_
    refine Cd.lp (σ := Nat × Option Addr × Nat × List NL) (fun s => s.1 ≤ 16 ∧ s.2.2.2.length = s.1 ∧ ∀ l ∈ s.2.2.2, l.2.length = ns.length ∧ ∀ v ∈ l.2, 0 ≤ v ∧ v ≤ 99) (fun s => [(0, .pointer (some ⟨S, 0, none⟩)), (2, .pointer (some ⟨b1, 0, none⟩)), (3, .int .i64 0), (4, .pointer (some ⟨b7, 0, none⟩)), (20, .int .i64 (s.1 : Int))]) (fun s => rd (LLF s.2.2.2) :: row s.2.1 s.2.2.1 31 1 s.1 (s.2.2.2.flatMap eNL) :: blk b7 138 [.int .i64 (now : Int), .slice ua ns.length uc, .slice s.2.1 s.1 s.2.2.1] :: row ua uc 133 2 ns.length (sts.flatMap eStt) :: blk b1 138 [.int .i64 0, .slice none 0 0, .slice none 0 0] :: blk S 130 (([.slice na ns.length nc, .int .i64 ip, .slice sa ss.length sc, .map (some M), .int .i64 (now : Int), .slice (some ⟨B, 0, none⟩) ns.length BC] : List Value) ++ q.map (Cp.rcell ns.length)) :: row (some ⟨B, 0, none⟩) BC 133 2 ns.length (sts.flatMap eStt) :: row na nc 62 8 ns.length (ns.flatMap ePrm) :: rd (wφ M E) :: (F ++ q.map (Cp.rrow ns.length))) (fun s => 16 - s.1) (0, none, 0, []) ⟨Nat.zero_le _, rfl, fun l hl => by cases hl⟩ ⟨rfl, rfl, rfl, rfl, rfl, trivial⟩ (fun _ hs => Sat.rd0 (φ := LLF []) (((((((((hs.pull .p6).pull .p6).pull .p6).pull .p3).pull .p6).pull .p6).pull .p6)).nilRow 31 1) (fun w l hl => by cases hl)) ?_
    rintro ⟨j, ya, yc, ls⟩ hI
    dsimp only at hI
    change Cd _ _ _ _ _ _ _ [(0, .pointer (some ⟨S, 0, none⟩)), (2, .pointer (some ⟨b1, 0, none⟩)), (3, .int .i64 0), (4, .pointer (some ⟨b7, 0, none⟩)), (20, .int .i64 (j : Int))] (rd (LLF ls) :: row ya yc 31 1 j (ls.flatMap eNL) :: blk b7 138 [.int .i64 (now : Int), .slice ua ns.length uc, .slice ya j yc] :: row ua uc 133 2 ns.length (sts.flatMap eStt) :: blk b1 138 [.int .i64 0, .slice none 0 0, .slice none 0 0] :: blk S 130 (([.slice na ns.length nc, .int .i64 ip, .slice sa ss.length sc, .map (some M), .int .i64 (now : Int), .slice (some ⟨B, 0, none⟩) ns.length BC] : List Value) ++ q.map (Cp.rcell ns.length)) :: row (some ⟨B, 0, none⟩) BC 133 2 ns.length (sts.flatMap eStt) :: row na nc 62 8 ns.length (ns.flatMap ePrm) :: rd (wφ M E) :: (F ++ q.map (Cp.rrow ns.length)))
    obtain ⟨hI1, hI2, hI3⟩ := hI
    refine Cd.seq ?_
    refine Cd.region ?_
    by_cases hj : (j : Int) < 16
    · refine Ops.q (q_cmp rfl rfl (c_lt hj)) ?_
      obtain ⟨x, hx⟩ : ∃ x, q[(now + j) % 16]? = some x := ⟨_, List.getElem?_eq_getElem (by have := hq.1; omega)⟩
      have hxl := hq.2 x (List.mem_iff_getElem?.2 ⟨_, hx⟩)
      have hxv := hqv x (List.mem_iff_getElem?.2 ⟨_, hx⟩)
      refine Ops.to rfl ?_
      refine Cd.seq ?_
      refine Cd.cond_t rfl ?_
      refine Cd.skipTo rfl ?_
      refine Cd.seq ?_
      refine Cd.block ?_
      refine Cd.seq ?_
      refine Cd.region ?_
      refine Ops.q (q_mv rfl) ?_
      refine Ops.q (q_asg rfl) ?_
      refine Ops.to rfl ?_
      refine Cd.draw rfl (by kernel_rfl) (.cons .p2 .nil) ?_
      intro F8 St9 hP10 hF11 hR12
      refine Dr.q (i := 0) hP10 rfl (by kernel_rfl) (q_fa fo_138_2 rfl) ?_
      refine Dr.q (i := 1) hP10 rfl (by kernel_rfl) (q_ldB isA_26 rfl .here rfl) ?_
      refine Dr.q (i := 2) hP10 rfl (by kernel_rfl) (q_mv rfl) ?_
      refine Dr.q (i := 3) hP10 rfl (by kernel_rfl) (q_mv rfl) ?_
      refine Dr.e (i := 4) rfl (by kernel_rfl) ?_
      refine Ops.cm (α := Unit) (v := fun _ => .slice (some ⟨x.1.1, 0, none⟩) ns.length x.1.2) (A' := fun _ => blk S 130 (([.slice na ns.length nc, .int .i64 ip, .slice sa ss.length sc, .map (some M), .int .i64 (now : Int), .slice (some ⟨B, 0, none⟩) ns.length BC] : List Value) ++ q.map (Cp.rcell ns.length)) :: F8 :: rd (LLF ls) :: row ya yc 31 1 j (ls.flatMap eNL) :: row ua uc 133 2 ns.length (sts.flatMap eStt) :: blk b1 138 [.int .i64 0, .slice none 0 0, .slice none 0 0] :: row (some ⟨B, 0, none⟩) BC 133 2 ns.length (sts.flatMap eStt) :: row na nc 62 8 ns.length (ns.flatMap ePrm) :: rd (wφ M E) :: (F ++ q.map (Cp.rrow ns.length))) en_99 rfl (fun w hs => (Cp.row_c S na nc sa sc ns ip ss.length M now B BC q _ (j : Int) ((now + j) % 16) x w0 w (by omega) (by omega) hx (by omega) (by omega) (((((((((hs.pull .p8).pull .p8).pull .p8).pull .p7).pull .p7).pull .p7).pull .p7).pull .p7).pull .p8)).mono fun e w' h => ⟨(), h.1, h.2⟩) ?_
      intro _
      refine Dr.back (fun _ hs => hF11 (.there .here) hs) ?_
      refine Dr.e (i := 5) rfl (by kernel_rfl) ?_
      refine Ops.cl (α := Option Addr × Nat) (v := fun p => .slice p.1 ns.length p.2) (B := fun p => [row p.1 p.2 3 1 ns.length (x.2.flatMap eInt)]) en_66 rfl (fun w hs => by have h9 := clint_c (some ⟨x.1.1, 0, none⟩) x.1.2 x.2 w (hs.ownRo (.there (.there (.there (.there (.there (.there (.there (.there (.there (Pull.right (pull_get (f := Cp.rrow ns.length) hx) F))))))))))) (by omega); rw [hxl] at h9; exact h9) ?_
      rintro ⟨ra, rc⟩
      refine Dr.back (fun _ hs => hF11 .p2 hs) ?_
      refine Dr.e (i := 6) rfl (by kernel_rfl) ?_
      refine Ops.lit [.slice ra ns.length rc] el_26 zsb_31 rfl rfl ⟨by decide, by decide⟩ rfl ?_
      intro b13
      refine Dr.back (fun _ hs => hF11 .p3 hs) ?_
      refine Dr.e (i := 7) rfl (by kernel_rfl) ?_
      refine Ops.app (news := [.slice ra ns.length rc]) el_26 zsb_31 (by decide) rfl rfl (fun _ hs => hs.ownRo .here) (fun _ hs => (hs.pull .here).drop) (fun _ _ => .p4) rfl (one rfl) (by omega) (by omega) ?_
      intro a14 c15
      refine Dr.back (fun _ hs => hF11 .p2 hs) ?_
      refine Dr.tail 8 (by kernel_rfl) ?_
      refine Ops.sat ?_ (fun _ hs => hR12 .p2 hs)
      refine Ops.q (q_fa fo_138_2 rfl) ?_
      refine Ops.stB [.slice a14 (j + 1) c15] [.int .i64 (now : Int), .slice ua ns.length uc, .slice a14 (j + 1) c15] sz_26 rfl rfl rfl (one rfl) .here rfl rfl ?_
      refine Ops.to rfl ?_
      refine Cd.region ?_
      refine Ops.q (q_ar rfl rfl (a_inc (by omega))) ?_
      refine Ops.q (q_mv rfl) ?_
      refine Ops.rnd ((j + 1, a14, c15, ls ++ [((ra, rc), x.2)])) rfl (by dsimp only; exact (⟨by omega, by rw [List.length_append, hI2]; rfl, fun l hl => by rcases List.mem_append.1 hl with hl | hl; (· exact hI3 l hl); (· obtain rfl := List.mem_singleton.1 hl; exact ⟨hxl, hxv⟩)⟩)) (by dsimp only; omega) ⟨rfl, rfl, rfl, rfl, rfl, trivial⟩ (fun _ hs => by have h1 := Sat.merge (ψ := LLF (ls ++ [((ra, rc), x.2)])) (((((((((((hs.pull .p9).pull .p9).pull .p9).pull .p5).pull .p9).pull .p9).pull .p6).pull .p9).pull .p9).pull .p9)) (fun w S h1 h2 => LLF.next h2 (ro_of_rowP h1)); rw [lsn_fm hxl ls _ _] at h1; exact h1) 
    · refine Ops.q (q_cmp rfl rfl (c_nlt (by omega))) ?_
      have hj16 : j = 16 := by omega
      rw [hj16]
      refine Ops.to rfl ?_
      refine Cd.seq ?_
      refine Cd.cond_f rfl ?_
      refine Cd.exitTo rfl ?_
      refine Cd.seq ?_
      refine Cd.region ?_
      refine Ops.q (q_ldBN [.int .i64 (now : Int), .slice ua ns.length uc, .slice ya 16 yc] isA_138 sz_138 rfl .p2 rfl) ?_
      refine Ops.stB [.int .i64 (now : Int), .slice ua ns.length uc, .slice ya 16 yc] [.int .i64 (now : Int), .slice ua ns.length uc, .slice ya 16 yc] sz_138 rfl rfl rfl (one rfl) .p4 rfl rfl ?_
      refine Ops.q (q_asg rfl) ?_
      refine Ops.to rfl ?_
      refine Cd.rt (fn := Tryz.f73) [.agg [.int .i64 (now : Int), .slice ua ns.length uc, .slice ya 16 yc].toArray, .int .i64 0] (by with_reducible repeat (first | exact rq_here | apply rq_then | apply rq_block)) rfl ⟨⟨_, _, rfl, fun _ hs => run_loadN isA_138 sz_138 (fun o u hu => Sat.atB .p4 (by rw [Nat.zero_add]; exact hu) hs)⟩, rfl, trivial⟩ ?_
      intro w' hs'
      exact ⟨(ua, uc, ya, yc, ls), rfl, ⟨by rw [← hj16]; exact hI2, hI3⟩, (((((((((hs'.pull .p8).pull .p8).pull .p8).pull .p8).pull .p4).pull .p5).pull .p7).pull .p7).drop.pull .p7).drop⟩
  · refine Ops.alc [.int .i64 0, .slice none 0 0, .slice none 0 0] zc_138 ?_
    intro b16
    refine Dr.back (fun _ hs => hF5 (.there .here) hs) ?_
    refine Dr.e (i := 8) rfl (by kernel_rfl) ?_
    refine Ops.cl (α := Option Addr × Nat) (v := fun p => .slice p.1 ns.length p.2) (B := fun p => [row p.1 p.2 133 2 ns.length (sts.flatMap eStt)]) en_65 rfl (fun w hs => by have h9 := clstt_c (some ⟨B, 0, none⟩) BC sts w (hs.ownRo .p3) (by omega); rw [hst] at h9; exact h9) ?_
    rintro ⟨ua, uc⟩
    refine Dr.back (fun _ hs => hF5 .p2 hs) ?_
    refine Dr.q (i := 9) hP4 rfl (by kernel_rfl) (q_bld [.int .i64 (now : Int), .slice ua ns.length uc, .slice none 0 0] pls_138 zc_138 rfl rfl) ?_
    refine Dr.tail 11 (by kernel_rfl) ?_
    refine Ops.sat ?_ (fun _ hs => hR6 .p2 hs)
    refine Ops.stB [.int .i64 (now : Int), .slice ua ns.length uc, .slice none 0 0] [.int .i64 (now : Int), .slice ua ns.length uc, .slice none 0 0] sz_138 rfl rfl rfl (one rfl) .p2 rfl rfl ?_
    refine Ops.to rfl ?_
    refine Cd.seq ?_
    refine Cd.seq ?_
    refine Cd.region ?_
    refine Ops.q (q_mv rfl) ?_
    refine Ops.to rfl ?_
    refine Cd.block ?_
    refine Cd.lp (σ := Nat × Option Addr × Nat × List NL) (fun s => s.1 ≤ 16 ∧ s.2.2.2.length = s.1 ∧ ∀ l ∈ s.2.2.2, l.2.length = ns.length ∧ ∀ v ∈ l.2, 0 ≤ v ∧ v ≤ 99) (fun s => [(0, .pointer (some ⟨S, 0, none⟩)), (2, .pointer (some ⟨b1, 0, none⟩)), (3, .int .i64 0), (4, .pointer (some ⟨b16, 0, none⟩)), (20, .int .i64 (s.1 : Int))]) (fun s => rd (LLF s.2.2.2) :: row s.2.1 s.2.2.1 31 1 s.1 (s.2.2.2.flatMap eNL) :: blk b16 138 [.int .i64 (now : Int), .slice ua ns.length uc, .slice s.2.1 s.1 s.2.2.1] :: row ua uc 133 2 ns.length (sts.flatMap eStt) :: blk b1 138 [.int .i64 0, .slice none 0 0, .slice none 0 0] :: blk S 130 (([.slice na ns.length nc, .int .i64 ip, .slice sa ss.length sc, .map (some M), .int .i64 (now : Int), .slice (some ⟨B, 0, none⟩) ns.length BC] : List Value) ++ q.map (Cp.rcell ns.length)) :: row (some ⟨B, 0, none⟩) BC 133 2 ns.length (sts.flatMap eStt) :: row na nc 62 8 ns.length (ns.flatMap ePrm) :: rd (wφ M E) :: (F ++ q.map (Cp.rrow ns.length))) (fun s => 16 - s.1) (0, none, 0, []) ⟨Nat.zero_le _, rfl, fun l hl => by cases hl⟩ ⟨rfl, rfl, rfl, rfl, rfl, trivial⟩ (fun _ hs => Sat.rd0 (φ := LLF []) (((((((((hs.pull .p6).pull .p6).pull .p6).pull .p3).pull .p6).pull .p5).pull .p6)).nilRow 31 1) (fun w l hl => by cases hl)) ?_
    rintro ⟨j, ya, yc, ls⟩ hI
    dsimp only at hI
    change Cd _ _ _ _ _ _ _ [(0, .pointer (some ⟨S, 0, none⟩)), (2, .pointer (some ⟨b1, 0, none⟩)), (3, .int .i64 0), (4, .pointer (some ⟨b16, 0, none⟩)), (20, .int .i64 (j : Int))] (rd (LLF ls) :: row ya yc 31 1 j (ls.flatMap eNL) :: blk b16 138 [.int .i64 (now : Int), .slice ua ns.length uc, .slice ya j yc] :: row ua uc 133 2 ns.length (sts.flatMap eStt) :: blk b1 138 [.int .i64 0, .slice none 0 0, .slice none 0 0] :: blk S 130 (([.slice na ns.length nc, .int .i64 ip, .slice sa ss.length sc, .map (some M), .int .i64 (now : Int), .slice (some ⟨B, 0, none⟩) ns.length BC] : List Value) ++ q.map (Cp.rcell ns.length)) :: row (some ⟨B, 0, none⟩) BC 133 2 ns.length (sts.flatMap eStt) :: row na nc 62 8 ns.length (ns.flatMap ePrm) :: rd (wφ M E) :: (F ++ q.map (Cp.rrow ns.length)))
    obtain ⟨hI1, hI2, hI3⟩ := hI
    refine Cd.seq ?_
    refine Cd.region ?_
    by_cases hj : (j : Int) < 16
    · refine Ops.q (q_cmp rfl rfl (c_lt hj)) ?_
      obtain ⟨x, hx⟩ : ∃ x, q[(now + j) % 16]? = some x := ⟨_, List.getElem?_eq_getElem (by have := hq.1; omega)⟩
      have hxl := hq.2 x (List.mem_iff_getElem?.2 ⟨_, hx⟩)
      have hxv := hqv x (List.mem_iff_getElem?.2 ⟨_, hx⟩)
      refine Ops.to rfl ?_
      refine Cd.seq ?_
      refine Cd.cond_t rfl ?_
      refine Cd.skipTo rfl ?_
      refine Cd.seq ?_
      refine Cd.block ?_
      refine Cd.seq ?_
      refine Cd.region ?_
      refine Ops.q (q_mv rfl) ?_
      refine Ops.q (q_asg rfl) ?_
      refine Ops.to rfl ?_
      refine Cd.draw rfl (by kernel_rfl) (.cons .p2 .nil) ?_
      intro F17 St18 hP19 hF20 hR21
      refine Dr.q (i := 0) hP19 rfl (by kernel_rfl) (q_fa fo_138_2 rfl) ?_
      refine Dr.q (i := 1) hP19 rfl (by kernel_rfl) (q_ldB isA_26 rfl .here rfl) ?_
      refine Dr.q (i := 2) hP19 rfl (by kernel_rfl) (q_mv rfl) ?_
      refine Dr.q (i := 3) hP19 rfl (by kernel_rfl) (q_mv rfl) ?_
      refine Dr.e (i := 4) rfl (by kernel_rfl) ?_
      refine Ops.cm (α := Unit) (v := fun _ => .slice (some ⟨x.1.1, 0, none⟩) ns.length x.1.2) (A' := fun _ => blk S 130 (([.slice na ns.length nc, .int .i64 ip, .slice sa ss.length sc, .map (some M), .int .i64 (now : Int), .slice (some ⟨B, 0, none⟩) ns.length BC] : List Value) ++ q.map (Cp.rcell ns.length)) :: F17 :: rd (LLF ls) :: row ya yc 31 1 j (ls.flatMap eNL) :: row ua uc 133 2 ns.length (sts.flatMap eStt) :: blk b1 138 [.int .i64 0, .slice none 0 0, .slice none 0 0] :: row (some ⟨B, 0, none⟩) BC 133 2 ns.length (sts.flatMap eStt) :: row na nc 62 8 ns.length (ns.flatMap ePrm) :: rd (wφ M E) :: (F ++ q.map (Cp.rrow ns.length))) en_99 rfl (fun w hs => (Cp.row_c S na nc sa sc ns ip ss.length M now B BC q _ (j : Int) ((now + j) % 16) x w0 w (by omega) (by omega) hx (by omega) (by omega) (((((((((hs.pull .p8).pull .p8).pull .p8).pull .p7).pull .p7).pull .p7).pull .p7).pull .p7).pull .p8)).mono fun e w' h => ⟨(), h.1, h.2⟩) ?_
      intro _
      refine Dr.back (fun _ hs => hF20 (.there .here) hs) ?_
      refine Dr.e (i := 5) rfl (by kernel_rfl) ?_
      refine Ops.cl (α := Option Addr × Nat) (v := fun p => .slice p.1 ns.length p.2) (B := fun p => [row p.1 p.2 3 1 ns.length (x.2.flatMap eInt)]) en_66 rfl (fun w hs => by have h9 := clint_c (some ⟨x.1.1, 0, none⟩) x.1.2 x.2 w (hs.ownRo (.there (.there (.there (.there (.there (.there (.there (.there (.there (Pull.right (pull_get (f := Cp.rrow ns.length) hx) F))))))))))) (by omega); rw [hxl] at h9; exact h9) ?_
      rintro ⟨ra, rc⟩
      refine Dr.back (fun _ hs => hF20 .p2 hs) ?_
      refine Dr.e (i := 6) rfl (by kernel_rfl) ?_
      refine Ops.lit [.slice ra ns.length rc] el_26 zsb_31 rfl rfl ⟨by decide, by decide⟩ rfl ?_
      intro b22
      refine Dr.back (fun _ hs => hF20 .p3 hs) ?_
      refine Dr.e (i := 7) rfl (by kernel_rfl) ?_
      refine Ops.app (news := [.slice ra ns.length rc]) el_26 zsb_31 (by decide) rfl rfl (fun _ hs => hs.ownRo .here) (fun _ hs => (hs.pull .here).drop) (fun _ _ => .p4) rfl (one rfl) (by omega) (by omega) ?_
      intro a23 c24
      refine Dr.back (fun _ hs => hF20 .p2 hs) ?_
      refine Dr.tail 8 (by kernel_rfl) ?_
      refine Ops.sat ?_ (fun _ hs => hR21 .p2 hs)
      refine Ops.q (q_fa fo_138_2 rfl) ?_
      refine Ops.stB [.slice a23 (j + 1) c24] [.int .i64 (now : Int), .slice ua ns.length uc, .slice a23 (j + 1) c24] sz_26 rfl rfl rfl (one rfl) .here rfl rfl ?_
      refine Ops.to rfl ?_
      refine Cd.region ?_
      refine Ops.q (q_ar rfl rfl (a_inc (by omega))) ?_
      refine Ops.q (q_mv rfl) ?_
      refine Ops.rnd ((j + 1, a23, c24, ls ++ [((ra, rc), x.2)])) rfl (by dsimp only; exact (⟨by omega, by rw [List.length_append, hI2]; rfl, fun l hl => by rcases List.mem_append.1 hl with hl | hl; (· exact hI3 l hl); (· obtain rfl := List.mem_singleton.1 hl; exact ⟨hxl, hxv⟩)⟩)) (by dsimp only; omega) ⟨rfl, rfl, rfl, rfl, rfl, trivial⟩ (fun _ hs => by have h1 := Sat.merge (ψ := LLF (ls ++ [((ra, rc), x.2)])) (((((((((((hs.pull .p9).pull .p9).pull .p9).pull .p5).pull .p9).pull .p9).pull .p6).pull .p9).pull .p9).pull .p9)) (fun w S h1 h2 => LLF.next h2 (ro_of_rowP h1)); rw [lsn_fm hxl ls _ _] at h1; exact h1) 
    · refine Ops.q (q_cmp rfl rfl (c_nlt (by omega))) ?_
      have hj16 : j = 16 := by omega
      rw [hj16]
      refine Ops.to rfl ?_
      refine Cd.seq ?_
      refine Cd.cond_f rfl ?_
      refine Cd.exitTo rfl ?_
      refine Cd.seq ?_
      refine Cd.region ?_
      refine Ops.q (q_ldBN [.int .i64 (now : Int), .slice ua ns.length uc, .slice ya 16 yc] isA_138 sz_138 rfl .p2 rfl) ?_
      refine Ops.stB [.int .i64 (now : Int), .slice ua ns.length uc, .slice ya 16 yc] [.int .i64 (now : Int), .slice ua ns.length uc, .slice ya 16 yc] sz_138 rfl rfl rfl (one rfl) .p4 rfl rfl ?_
      refine Ops.q (q_asg rfl) ?_
      refine Ops.to rfl ?_
      refine Cd.rt (fn := Tryz.f73) [.agg [.int .i64 (now : Int), .slice ua ns.length uc, .slice ya 16 yc].toArray, .int .i64 0] (by with_reducible repeat (first | exact rq_here | apply rq_then | apply rq_block)) rfl ⟨⟨_, _, rfl, fun _ hs => run_loadN isA_138 sz_138 (fun o u hu => Sat.atB .p4 (by rw [Nat.zero_add]; exact hu) hs)⟩, rfl, trivial⟩ ?_
      intro w' hs'
      exact ⟨(ua, uc, ya, yc, ls), rfl, ⟨by rw [← hj16]; exact hI2, hI3⟩, (((((((((hs'.pull .p8).pull .p8).pull .p8).pull .p8).pull .p4).pull .p5).pull .p7).pull .p7).drop.pull .p7).drop⟩
end Go.Proofs.YtilcdghliigngaaGreatDoor
namespace Go.Proofs.YtilcdghliigngaaGreatDoor
open Go.RowKit Go.Proofs.YtilcdghliigngaaGreatDoorGl Go.Proofs.YtilcdghliigngaaGreatDoorPm
set_option linter.unusedVariables false
set_option linter.unusedSimpArgs false
theorem key1_i (v : Int) (kb : Nat) (a : Option Addr) (c : Nat) (l : List UInt8) (w0 w : World) (F : List Atom) (hv : 0 ≤ v ∧ v ≤ 99) (hl : l.length ≤ 800000) (hs : Sat w0 w (blk kb 22 [.slice a l.length c] :: row a c 5 1 l.length (bytesV l) :: F)) : Calls Tryz.prog 74 [.int .i64 v, .pointer (some ⟨kb, 0, none⟩)].toArray w (KeyR kb l w0 F) := by
  obtain ⟨n, rfl⟩ := Int.eq_ofNat_of_zero_le hv.1
  exact key1_c n kb a c l w0 w F (by omega) hl hs
theorem key_c (nb tb tc : Nat) (v3 v4 : Value) (S : Nat) (na : Option Addr) (nc : Nat) (sa : Option Addr) (sc : Nat) (ns : List Prm) (ip : Int) (ss : List Syn) (M : Nat) (E : List WEnt) (now B BC : Nat) (sts : List Stt) (q : List Cp.RQ) (F : List Atom) (w0 w : World) (hn0 : 0 < ns.length) (hn : ns.length ≤ 1024) (hst : sts.length = ns.length) (hq : Cp.ringOK ns.length q) (hqv : ∀ x ∈ q, ∀ v ∈ x.2, 0 ≤ v ∧ v ≤ 99) (hnow : now ≤ 10000) (hsv : ∀ s ∈ sts, (0 ≤ s.v ∧ s.v ≤ 99) ∧ 0 ≤ s.rest ∧ s.rest ≤ 99) (hnode : ∀ w, Sat w0 w F → Ro w (some ⟨nb, 0, none⟩) [.pointer (some ⟨S, 0, none⟩), .int .i64 0, .slice (some ⟨tb, 0, none⟩) 1 tc, v3, v4]) (hdone : ∀ w, Sat w0 w F → RoL w (some ⟨tb, 0, none⟩) eBool [true]) (hs : Sat w0 w (Cp.simA S na nc sa sc ns ip ss.length M E now B BC sts q F)) : Calls Tryz.prog 36 [.pointer (some ⟨nb, 0, none⟩)].toArray w fun e w' => ∃ s : ByteArray, e = .returned (.string s) ∧ Sat w0 w' (Cp.simA S na nc sa sc ns ip ss.length M E now B BC sts q F) := by
  refine fstart Tryz.func36 rfl rfl hs ?_
  refine Cd.seq ?_
  refine Cd.region ?_
  refine Ops.q (q_asg rfl) ?_
  refine Ops.to rfl ?_
  refine Cd.seq ?_
  refine Cd.region ?_
  refine Ops.q (q_mv rfl) ?_
  refine Ops.q (q_nck rfl) ?_
  refine Ops.q (q_fa fo_81_0 rfl) ?_
  refine Ops.q (q_ld (v := .pointer (some ⟨S, 0, none⟩)) isA_76 rfl (fun w hs => Ro.at (hnode w (dropTail (B := F) (((((hs).drop).drop).drop).drop))) (j := 0) rfl)) ?_
  refine Ops.cm (α := {x : ImgS // x.2.2.2.2.length = 16 ∧ ∀ l ∈ x.2.2.2.2, l.2.length = ns.length ∧ ∀ v ∈ l.2, 0 ≤ v ∧ v ≤ 99}) (v := fun x => .tuple [.agg [.int .i64 (now : Int), .slice x.1.1 ns.length x.1.2.1, .slice x.1.2.2.1 16 x.1.2.2.2.1].toArray, .int .i64 0].toArray) (A' := fun x => row x.1.1 x.1.2.1 133 2 ns.length (sts.flatMap eStt) :: row x.1.2.2.1 x.1.2.2.2.1 31 1 16 (x.1.2.2.2.2.flatMap eNL) :: rd (LLF x.1.2.2.2.2) :: Cp.simA S na nc sa sc ns ip ss.length M E now B BC sts q F) en_73 rfl (fun w hs => (image_c S na nc sa sc ns ip ss M E now B BC sts q F w0 w hn0 hn hst hq hqv hnow hs).mono fun e w' ⟨x, h1, h2, h3⟩ => ⟨⟨x, h2⟩, h1, h3⟩) ?_
  rintro ⟨⟨ua, uc, ya, yc, ls⟩, hls⟩
  dsimp only at hls
  obtain ⟨hl16, hlv⟩ := hls
  refine Ops.rowpos .here hn0 ?_
  rintro ub h9
  dsimp only at h9
  subst h9
  refine Ops.rowpos (.there .here) (by decide) ?_
  rintro yb h9
  dsimp only at h9
  subst h9
  refine Ops.q (q_mv rfl) ?_
  refine Ops.q (q_ext rfl rfl) ?_
  refine Ops.q (q_ext rfl rfl) ?_
  refine Ops.alc [.int .i64 0, .slice none 0 0, .slice none 0 0] zc_138 ?_
  intro b1
  refine Ops.stB [.int .i64 (now : Int), .slice (some ⟨ub, 0, none⟩) ns.length uc, .slice (some ⟨yb, 0, none⟩) 16 yc] [.int .i64 (now : Int), .slice (some ⟨ub, 0, none⟩) ns.length uc, .slice (some ⟨yb, 0, none⟩) 16 yc] sz_138 rfl rfl rfl (one rfl) .here rfl rfl ?_
  refine Ops.q (q_asg rfl) ?_
  refine Ops.to rfl ?_
  refine Cd.seq ?_
  refine Cd.region ?_
  refine Ops.alc [.slice none 0 0] zc_22 ?_
  intro b2
  refine Ops.to rfl ?_
  refine Cd.seq ?_
  refine Cd.region ?_
  refine Ops.q (q_mkf rfl rfl) ?_
  refine Ops.q (q_asg rfl) ?_
  refine Ops.to rfl ?_
  refine Cd.seq ?_
  refine Cd.seq ?_
  refine Cd.region ?_
  refine Ops.q (q_fa fo_138_1 rfl) ?_
  refine Ops.q (q_ldB isA_126 rfl (.there .here) rfl) ?_
  refine Ops.q (q_len esz_126 rfl) ?_
  refine Ops.q (q_mv rfl) ?_
  refine Ops.to rfl ?_
  refine Cd.block ?_
  refine Cd.lp (σ := Nat × Option Addr × Nat × List UInt8) (fun s => s.1 ≤ ns.length ∧ s.2.2.2.length ≤ 6 * s.1) (fun s => [(0, .pointer (some ⟨nb, 0, none⟩)), (3, .pointer (some ⟨b1, 0, none⟩)), (5, .pointer (some ⟨b2, 0, none⟩)), (6, .func (.func 74) #[] #[.pointer (some ⟨b2, 0, none⟩)]), (23, .slice (some ⟨ub, 0, none⟩) ns.length uc), (24, .int .i64 (ns.length : Int)), (25, .int .i64 (s.1 : Int))]) (fun s => blk b2 22 [.slice s.2.1 s.2.2.2.length s.2.2.1] :: row s.2.1 s.2.2.1 5 1 s.2.2.2.length (bytesV s.2.2.2) :: row (some ⟨ub, 0, none⟩) uc 133 2 ns.length (sts.flatMap eStt) :: row (some ⟨yb, 0, none⟩) yc 31 1 16 (ls.flatMap eNL) :: rd (LLF ls) :: blk b1 138 [.int .i64 (now : Int), .slice (some ⟨ub, 0, none⟩) ns.length uc, .slice (some ⟨yb, 0, none⟩) 16 yc] :: blk S 130 (([.slice na ns.length nc, .int .i64 ip, .slice sa ss.length sc, .map (some M), .int .i64 (now : Int), .slice (some ⟨B, 0, none⟩) ns.length BC] : List Value) ++ q.map (Cp.rcell ns.length)) :: row (some ⟨B, 0, none⟩) BC 133 2 ns.length (sts.flatMap eStt) :: row na nc 62 8 ns.length (ns.flatMap ePrm) :: rd (wφ M E) :: (F ++ q.map (Cp.rrow ns.length))) (fun s => ns.length - s.1) (0, none, 0, []) ⟨Nat.zero_le _, Nat.zero_le _⟩ ⟨rfl, rfl, rfl, rfl, rfl, rfl, rfl, trivial⟩ (fun _ hs => (((((((((((hs.pull .p8).pull .p8).pull .p8).pull .p8).pull .p5).pull .p8).pull .p8).pull .p8).pull .p8)).nilRow 5 1).pull (.there .here)) ?_
  rintro ⟨k, a, c, l⟩ hI
  dsimp only at hI
  change Cd _ _ _ _ _ _ _ [(0, .pointer (some ⟨nb, 0, none⟩)), (3, .pointer (some ⟨b1, 0, none⟩)), (5, .pointer (some ⟨b2, 0, none⟩)), (6, .func (.func 74) #[] #[.pointer (some ⟨b2, 0, none⟩)]), (23, .slice (some ⟨ub, 0, none⟩) ns.length uc), (24, .int .i64 (ns.length : Int)), (25, .int .i64 (k : Int))] (blk b2 22 [.slice a l.length c] :: row a c 5 1 l.length (bytesV l) :: row (some ⟨ub, 0, none⟩) uc 133 2 ns.length (sts.flatMap eStt) :: row (some ⟨yb, 0, none⟩) yc 31 1 16 (ls.flatMap eNL) :: rd (LLF ls) :: blk b1 138 [.int .i64 (now : Int), .slice (some ⟨ub, 0, none⟩) ns.length uc, .slice (some ⟨yb, 0, none⟩) 16 yc] :: blk S 130 (([.slice na ns.length nc, .int .i64 ip, .slice sa ss.length sc, .map (some M), .int .i64 (now : Int), .slice (some ⟨B, 0, none⟩) ns.length BC] : List Value) ++ q.map (Cp.rcell ns.length)) :: row (some ⟨B, 0, none⟩) BC 133 2 ns.length (sts.flatMap eStt) :: row na nc 62 8 ns.length (ns.flatMap ePrm) :: rd (wφ M E) :: (F ++ q.map (Cp.rrow ns.length)))
  obtain ⟨hI1, hI2⟩ := hI
  refine Cd.seq ?_
  refine Cd.region ?_
  by_cases hk : (k : Int) < (ns.length : Int)
  · refine Ops.q (q_cmp rfl rfl (c_lt hk)) ?_
    obtain ⟨x, hx⟩ : ∃ x, sts[k]? = some x := ⟨_, List.getElem?_eq_getElem (by omega)⟩
    have hxv := hsv x (List.mem_iff_getElem?.2 ⟨_, hx⟩)
    refine Ops.to rfl ?_
    refine Cd.seq ?_
    refine Cd.cond_t rfl ?_
    refine Cd.skipTo rfl ?_
    refine Cd.seq ?_
    refine Cd.block ?_
    refine Cd.seq ?_
    refine Cd.region ?_
    refine Ops.q (q_ix (k := k) esz_126 rfl rfl (by omega)) ?_
    refine Ops.q (q_ldON [.int .i64 x.v, .int .i64 x.rest] isA_133 sz_133 rfl .p2 (fm_atN eStt_len hx)) ?_
    refine Ops.alc [.int .i64 0, .int .i64 0] zc_133 ?_
    intro b3
    refine Ops.stB [.int .i64 x.v, .int .i64 x.rest] [.int .i64 x.v, .int .i64 x.rest] sz_133 rfl rfl rfl (one rfl) .here rfl rfl ?_
    refine Ops.to rfl ?_
    refine Cd.seq ?_
    refine Cd.region ?_
    refine Ops.q (q_mv rfl) ?_
    refine Ops.q (q_fa fo_133_0 rfl) ?_
    refine Ops.q (q_ldB isA_3 rfl .here rfl) ?_
    refine Ops.cv (α := {x : Bts // 1 ≤ x.2.2.length ∧ x.2.2.length ≤ l.length + 3}) (k := 74) (first := []) (caps := [.pointer (some ⟨b2, 0, none⟩)]) (vs := [.int .i64 x.v]) (v := fun _ => .tuple #[]) (A' := fun z9 => blk b2 22 [.slice z9.1.1 z9.1.2.2.length z9.1.2.1] :: row z9.1.1 z9.1.2.1 5 1 z9.1.2.2.length (bytesV z9.1.2.2) :: blk b3 133 [.int .i64 x.v, .int .i64 x.rest] :: row (some ⟨ub, 0, none⟩) uc 133 2 ns.length (sts.flatMap eStt) :: row (some ⟨yb, 0, none⟩) yc 31 1 16 (ls.flatMap eNL) :: rd (LLF ls) :: blk b1 138 [.int .i64 (now : Int), .slice (some ⟨ub, 0, none⟩) ns.length uc, .slice (some ⟨yb, 0, none⟩) 16 yc] :: blk S 130 (([.slice na ns.length nc, .int .i64 ip, .slice sa ss.length sc, .map (some M), .int .i64 (now : Int), .slice (some ⟨B, 0, none⟩) ns.length BC] : List Value) ++ q.map (Cp.rcell ns.length)) :: row (some ⟨B, 0, none⟩) BC 133 2 ns.length (sts.flatMap eStt) :: row na nc 62 8 ns.length (ns.flatMap ePrm) :: rd (wφ M E) :: (F ++ q.map (Cp.rrow ns.length))) en_74 rfl rfl ?_ ?_
    · intro w hs
      exact (key1_i (x.v) b2 a c l w0 w (blk b3 133 [.int .i64 x.v, .int .i64 x.rest] :: row (some ⟨ub, 0, none⟩) uc 133 2 ns.length (sts.flatMap eStt) :: row (some ⟨yb, 0, none⟩) yc 31 1 16 (ls.flatMap eNL) :: rd (LLF ls) :: blk b1 138 [.int .i64 (now : Int), .slice (some ⟨ub, 0, none⟩) ns.length uc, .slice (some ⟨yb, 0, none⟩) 16 yc] :: blk S 130 (([.slice na ns.length nc, .int .i64 ip, .slice sa ss.length sc, .map (some M), .int .i64 (now : Int), .slice (some ⟨B, 0, none⟩) ns.length BC] : List Value) ++ q.map (Cp.rcell ns.length)) :: row (some ⟨B, 0, none⟩) BC 133 2 ns.length (sts.flatMap eStt) :: row na nc 62 8 ns.length (ns.flatMap ePrm) :: rd (wφ M E) :: (F ++ q.map (Cp.rrow ns.length))) (by omega) (by omega) ((((((((((((hs.pull .p10).pull .p10).pull .p10).pull .p10).pull .p10).pull .p10).pull .p10).pull .p10).pull .p8).pull .p10).pull .p10))).mono fun e w' ⟨x, h1, h2, h3⟩ => ⟨⟨x, h2⟩, h1, h3⟩
    rintro ⟨⟨a4, c5, l6⟩, hl6⟩
    dsimp only at hl6
    refine Ops.to rfl ?_
    refine Cd.region ?_
    refine Ops.q (q_mv rfl) ?_
    refine Ops.q (q_fa fo_133_1 rfl) ?_
    refine Ops.q (q_ldB isA_3 rfl .p2 rfl) ?_
    refine Ops.cv (α := {x : Bts // 1 ≤ x.2.2.length ∧ x.2.2.length ≤ l6.length + 3}) (k := 74) (first := []) (caps := [.pointer (some ⟨b2, 0, none⟩)]) (vs := [.int .i64 x.rest]) (v := fun _ => .tuple #[]) (A' := fun z9 => blk b2 22 [.slice z9.1.1 z9.1.2.2.length z9.1.2.1] :: row z9.1.1 z9.1.2.1 5 1 z9.1.2.2.length (bytesV z9.1.2.2) :: blk b3 133 [.int .i64 x.v, .int .i64 x.rest] :: row (some ⟨ub, 0, none⟩) uc 133 2 ns.length (sts.flatMap eStt) :: row (some ⟨yb, 0, none⟩) yc 31 1 16 (ls.flatMap eNL) :: rd (LLF ls) :: blk b1 138 [.int .i64 (now : Int), .slice (some ⟨ub, 0, none⟩) ns.length uc, .slice (some ⟨yb, 0, none⟩) 16 yc] :: blk S 130 (([.slice na ns.length nc, .int .i64 ip, .slice sa ss.length sc, .map (some M), .int .i64 (now : Int), .slice (some ⟨B, 0, none⟩) ns.length BC] : List Value) ++ q.map (Cp.rcell ns.length)) :: row (some ⟨B, 0, none⟩) BC 133 2 ns.length (sts.flatMap eStt) :: row na nc 62 8 ns.length (ns.flatMap ePrm) :: rd (wφ M E) :: (F ++ q.map (Cp.rrow ns.length))) en_74 rfl rfl ?_ ?_
    · intro w hs
      exact (key1_i (x.rest) b2 a4 c5 l6 w0 w (blk b3 133 [.int .i64 x.v, .int .i64 x.rest] :: row (some ⟨ub, 0, none⟩) uc 133 2 ns.length (sts.flatMap eStt) :: row (some ⟨yb, 0, none⟩) yc 31 1 16 (ls.flatMap eNL) :: rd (LLF ls) :: blk b1 138 [.int .i64 (now : Int), .slice (some ⟨ub, 0, none⟩) ns.length uc, .slice (some ⟨yb, 0, none⟩) 16 yc] :: blk S 130 (([.slice na ns.length nc, .int .i64 ip, .slice sa ss.length sc, .map (some M), .int .i64 (now : Int), .slice (some ⟨B, 0, none⟩) ns.length BC] : List Value) ++ q.map (Cp.rcell ns.length)) :: row (some ⟨B, 0, none⟩) BC 133 2 ns.length (sts.flatMap eStt) :: row na nc 62 8 ns.length (ns.flatMap ePrm) :: rd (wφ M E) :: (F ++ q.map (Cp.rrow ns.length))) (by omega) (by omega) ((((((((((((hs.pull .p10).pull .p10).pull .p10).pull .p10).pull .p10).pull .p10).pull .p10).pull .p10).pull .p10).pull .p10).pull .p10))).mono fun e w' ⟨x, h1, h2, h3⟩ => ⟨⟨x, h2⟩, h1, h3⟩
    rintro ⟨⟨a7, c8, l9⟩, hl9⟩
    dsimp only at hl9
    refine Ops.to rfl ?_
    refine Cd.region ?_
    refine Ops.q (q_ar rfl rfl (a_inc (by omega))) ?_
    refine Ops.q (q_mv rfl) ?_
    refine Ops.rnd ((k + 1, a7, c8, l9)) rfl (by dsimp only; exact (⟨by omega, by omega⟩)) (by dsimp only; omega) ⟨rfl, rfl, rfl, rfl, rfl, rfl, rfl, trivial⟩ (fun _ hs => (((((((((((hs.pull .p10).pull .p10).pull .p10).pull .p10).pull .p10).pull .p10).pull .p10).pull .p10).pull .p9).pull .p9).pull .p10).drop) 
  · refine Ops.q (q_cmp rfl rfl (c_nlt (by omega))) ?_
    refine Ops.to rfl ?_
    refine Cd.seq ?_
    refine Cd.cond_f rfl ?_
    refine Cd.exitTo rfl ?_
    refine Cd.seq ?_
    refine Cd.seq ?_
    refine Cd.region ?_
    refine Ops.q (q_fa fo_138_2 rfl) ?_
    refine Ops.q (q_ldB isA_26 rfl .p5 rfl) ?_
    have hcl : (cat ls).length = 16 * ns.length := by rw [cat_len (fun y hy => (hlv y hy).1), hl16]
    refine Ops.cl (α := Option Addr × Nat) (v := fun p => .slice p.1 (cat ls).length p.2) (B := fun p => [row p.1 p.2 3 1 (cat ls).length ((cat ls).flatMap eInt)]) en_47 rfl (fun w hs => by have h9 := concat_c yb 0 yc ls w ⟨hs.ownRo .p3, hs.read .p4⟩ (by omega) (by omega); rw [hl16] at h9; exact h9) ?_
    rintro ⟨da, dc⟩
    refine Ops.rowpos .here (by omega) ?_
    rintro db h9
    dsimp only at h9
    subst h9
    refine Ops.q (q_len esz_31 rfl) ?_
    refine Ops.q (q_mv rfl) ?_
    refine Ops.to rfl ?_
    refine Cd.block ?_
    refine Cd.lp (σ := Nat × Option Addr × Nat × List UInt8) (fun s => s.1 ≤ (cat ls).length ∧ s.2.2.2.length ≤ 6144 + 3 * s.1) (fun s => [(0, .pointer (some ⟨nb, 0, none⟩)), (3, .pointer (some ⟨b1, 0, none⟩)), (5, .pointer (some ⟨b2, 0, none⟩)), (6, .func (.func 74) #[] #[.pointer (some ⟨b2, 0, none⟩)]), (40, .slice (some ⟨db, 0, none⟩) ((cat ls).length) dc), (41, .int .i64 ((cat ls).length : Int)), (42, .int .i64 (s.1 : Int))]) (fun s => blk b2 22 [.slice s.2.1 s.2.2.2.length s.2.2.1] :: row s.2.1 s.2.2.1 5 1 s.2.2.2.length (bytesV s.2.2.2) :: row (some ⟨db, 0, none⟩) dc 3 1 ((cat ls).length) ((cat ls).flatMap eInt) :: blk S 130 (([.slice na ns.length nc, .int .i64 ip, .slice sa ss.length sc, .map (some M), .int .i64 (now : Int), .slice (some ⟨B, 0, none⟩) ns.length BC] : List Value) ++ q.map (Cp.rcell ns.length)) :: row (some ⟨B, 0, none⟩) BC 133 2 ns.length (sts.flatMap eStt) :: row na nc 62 8 ns.length (ns.flatMap ePrm) :: rd (wφ M E) :: (F ++ q.map (Cp.rrow ns.length))) (fun s => (cat ls).length - s.1) (0, a, c, l) ⟨Nat.zero_le _, by dsimp only; omega⟩ ⟨rfl, rfl, rfl, rfl, rfl, rfl, rfl, trivial⟩ (fun _ hs => (((((((((((hs.pull .p10).pull .p10).pull .p10).pull .p10).pull .p4).pull .p6).pull .p6).pull .p7).drop.pull .p7).drop.pull .p7).drop.pull .p7).drop) ?_
    rintro ⟨k, a, c, l⟩ hI
    dsimp only at hI
    change Cd _ _ _ _ _ _ _ [(0, .pointer (some ⟨nb, 0, none⟩)), (3, .pointer (some ⟨b1, 0, none⟩)), (5, .pointer (some ⟨b2, 0, none⟩)), (6, .func (.func 74) #[] #[.pointer (some ⟨b2, 0, none⟩)]), (40, .slice (some ⟨db, 0, none⟩) ((cat ls).length) dc), (41, .int .i64 ((cat ls).length : Int)), (42, .int .i64 (k : Int))] (blk b2 22 [.slice a l.length c] :: row a c 5 1 l.length (bytesV l) :: row (some ⟨db, 0, none⟩) dc 3 1 ((cat ls).length) ((cat ls).flatMap eInt) :: blk S 130 (([.slice na ns.length nc, .int .i64 ip, .slice sa ss.length sc, .map (some M), .int .i64 (now : Int), .slice (some ⟨B, 0, none⟩) ns.length BC] : List Value) ++ q.map (Cp.rcell ns.length)) :: row (some ⟨B, 0, none⟩) BC 133 2 ns.length (sts.flatMap eStt) :: row na nc 62 8 ns.length (ns.flatMap ePrm) :: rd (wφ M E) :: (F ++ q.map (Cp.rrow ns.length)))
    obtain ⟨hI1, hI2⟩ := hI
    refine Cd.seq ?_
    refine Cd.region ?_
    by_cases hk : (k : Int) < ((cat ls).length : Int)
    · refine Ops.q (q_cmp rfl rfl (c_lt hk)) ?_
      obtain ⟨x, hx⟩ : ∃ x, (cat ls)[k]? = some x := ⟨_, List.getElem?_eq_getElem (by omega)⟩
      have hxv : 0 ≤ x ∧ x ≤ 99 := by obtain ⟨y, hy, hxy⟩ := List.mem_flatMap.1 (List.mem_iff_getElem?.2 ⟨_, hx⟩); exact (hlv y hy).2 x hxy
      refine Ops.to rfl ?_
      refine Cd.seq ?_
      refine Cd.cond_t rfl ?_
      refine Cd.skipTo rfl ?_
      refine Cd.seq ?_
      refine Cd.block ?_
      refine Cd.seq ?_
      refine Cd.region ?_
      refine Ops.q (q_ix (k := k) esz_31 rfl rfl (by omega)) ?_
      refine Ops.q (q_ldO isA_3 rfl .p2 (fm_at0 eInt_len hx rfl)) ?_
      refine Ops.q (q_asg rfl) ?_
      refine Ops.to rfl ?_
      refine Cd.region ?_
      refine Ops.q (q_mv rfl) ?_
      refine Ops.q (q_mv rfl) ?_
      refine Ops.cv (α := {x : Bts // 1 ≤ x.2.2.length ∧ x.2.2.length ≤ l.length + 3}) (k := 74) (first := []) (caps := [.pointer (some ⟨b2, 0, none⟩)]) (vs := [.int .i64 x]) (v := fun _ => .tuple #[]) (A' := fun z9 => blk b2 22 [.slice z9.1.1 z9.1.2.2.length z9.1.2.1] :: row z9.1.1 z9.1.2.1 5 1 z9.1.2.2.length (bytesV z9.1.2.2) :: row (some ⟨db, 0, none⟩) dc 3 1 ((cat ls).length) ((cat ls).flatMap eInt) :: blk S 130 (([.slice na ns.length nc, .int .i64 ip, .slice sa ss.length sc, .map (some M), .int .i64 (now : Int), .slice (some ⟨B, 0, none⟩) ns.length BC] : List Value) ++ q.map (Cp.rcell ns.length)) :: row (some ⟨B, 0, none⟩) BC 133 2 ns.length (sts.flatMap eStt) :: row na nc 62 8 ns.length (ns.flatMap ePrm) :: rd (wφ M E) :: (F ++ q.map (Cp.rrow ns.length))) en_74 rfl rfl ?_ ?_
      · intro w hs
        exact (key1_i (x) b2 a c l w0 w (row (some ⟨db, 0, none⟩) dc 3 1 ((cat ls).length) ((cat ls).flatMap eInt) :: blk S 130 (([.slice na ns.length nc, .int .i64 ip, .slice sa ss.length sc, .map (some M), .int .i64 (now : Int), .slice (some ⟨B, 0, none⟩) ns.length BC] : List Value) ++ q.map (Cp.rcell ns.length)) :: row (some ⟨B, 0, none⟩) BC 133 2 ns.length (sts.flatMap eStt) :: row na nc 62 8 ns.length (ns.flatMap ePrm) :: rd (wφ M E) :: (F ++ q.map (Cp.rrow ns.length))) (by omega) (by omega) ((((((((hs.pull .p6).pull .p6).pull .p6).pull .p6).pull .p6).pull .p6).pull .p6))).mono fun e w' ⟨x, h1, h2, h3⟩ => ⟨⟨x, h2⟩, h1, h3⟩
      rintro ⟨⟨a10, c11, l12⟩, hl12⟩
      dsimp only at hl12
      refine Ops.to rfl ?_
      refine Cd.region ?_
      refine Ops.q (q_ar rfl rfl (a_inc (by omega))) ?_
      refine Ops.q (q_mv rfl) ?_
      refine Ops.rnd ((k + 1, a10, c11, l12)) rfl (by dsimp only; exact (⟨by omega, by omega⟩)) (by dsimp only; omega) ⟨rfl, rfl, rfl, rfl, rfl, rfl, rfl, trivial⟩ (fun _ hs => (((((((hs.pull .p6).pull .p6).pull .p6).pull .p6).pull .p6).pull .p6).pull .p6)) 
    · refine Ops.q (q_cmp rfl rfl (c_nlt (by omega))) ?_
      refine Ops.to rfl ?_
      refine Cd.seq ?_
      refine Cd.cond_f rfl ?_
      refine Cd.exitTo rfl ?_
      refine Cd.seq ?_
      refine Cd.seq ?_
      refine Cd.region ?_
      refine Ops.q (q_mv rfl) ?_
      refine Ops.q (q_nck rfl) ?_
      refine Ops.q (q_fa fo_81_2 rfl) ?_
      refine Ops.q (q_ld (v := .slice (some ⟨tb, 0, none⟩) 1 tc) isA_27 rfl (fun w hs => Ro.at (hnode w (dropTail (B := F) ((((((((hs).drop).drop).drop).drop).drop).drop).drop))) (j := 2) rfl)) ?_
      refine Ops.q (q_len esz_27 rfl) ?_
      refine Ops.q (q_mv rfl) ?_
      refine Ops.to rfl ?_
      refine Cd.block ?_
      refine Cd.lp (σ := Nat × Option Addr × Nat × List UInt8) (fun s => s.1 ≤ 1 ∧ s.2.2.2.length ≤ 100000 + 4 * s.1) (fun s => [(0, .pointer (some ⟨nb, 0, none⟩)), (3, .pointer (some ⟨b1, 0, none⟩)), (5, .pointer (some ⟨b2, 0, none⟩)), (6, .func (.func 74) #[] #[.pointer (some ⟨b2, 0, none⟩)]), (53, .slice (some ⟨tb, 0, none⟩) 1 tc), (54, .int .i64 1), (55, .int .i64 (s.1 : Int))]) (fun s => blk b2 22 [.slice s.2.1 s.2.2.2.length s.2.2.1] :: row s.2.1 s.2.2.1 5 1 s.2.2.2.length (bytesV s.2.2.2) :: blk S 130 (([.slice na ns.length nc, .int .i64 ip, .slice sa ss.length sc, .map (some M), .int .i64 (now : Int), .slice (some ⟨B, 0, none⟩) ns.length BC] : List Value) ++ q.map (Cp.rcell ns.length)) :: row (some ⟨B, 0, none⟩) BC 133 2 ns.length (sts.flatMap eStt) :: row na nc 62 8 ns.length (ns.flatMap ePrm) :: rd (wφ M E) :: (F ++ q.map (Cp.rrow ns.length))) (fun s => 1 - s.1) (0, a, c, l) ⟨Nat.zero_le _, by dsimp only; omega⟩ ⟨rfl, rfl, rfl, rfl, rfl, rfl, rfl, trivial⟩ (fun _ hs => (((((((hs.pull .p6).pull .p6).pull .p6).pull .p6).pull .p5).pull .p5).pull .p6).drop) ?_
      rintro ⟨k, a, c, l⟩ hI
      dsimp only at hI
      change Cd _ _ _ _ _ _ _ [(0, .pointer (some ⟨nb, 0, none⟩)), (3, .pointer (some ⟨b1, 0, none⟩)), (5, .pointer (some ⟨b2, 0, none⟩)), (6, .func (.func 74) #[] #[.pointer (some ⟨b2, 0, none⟩)]), (53, .slice (some ⟨tb, 0, none⟩) 1 tc), (54, .int .i64 1), (55, .int .i64 (k : Int))] (blk b2 22 [.slice a l.length c] :: row a c 5 1 l.length (bytesV l) :: blk S 130 (([.slice na ns.length nc, .int .i64 ip, .slice sa ss.length sc, .map (some M), .int .i64 (now : Int), .slice (some ⟨B, 0, none⟩) ns.length BC] : List Value) ++ q.map (Cp.rcell ns.length)) :: row (some ⟨B, 0, none⟩) BC 133 2 ns.length (sts.flatMap eStt) :: row na nc 62 8 ns.length (ns.flatMap ePrm) :: rd (wφ M E) :: (F ++ q.map (Cp.rrow ns.length)))
      obtain ⟨hI1, hI2⟩ := hI
      refine Cd.seq ?_
      refine Cd.region ?_
      by_cases hk : (k : Int) < 1
      · refine Ops.q (q_cmp rfl rfl (c_lt hk)) ?_
        have hk0 : k = 0 := by omega
        refine Ops.to rfl ?_
        refine Cd.seq ?_
        refine Cd.cond_t rfl ?_
        refine Cd.skipTo rfl ?_
        refine Cd.seq ?_
        refine Cd.block ?_
        refine Cd.seq ?_
        refine Cd.region ?_
        refine Ops.q (q_ix (k := k) esz_27 rfl rfl (by omega)) ?_
        refine Ops.q (q_ld (v := .bool true) isA_4 rfl (fun w hs => by rw [hk0]; exact RoL.at0 (hdone w (dropTail (B := F) (((((((hs).drop).drop).drop).drop).drop).drop))) eBool_len (k := 0) rfl rfl)) ?_
        refine Ops.q (q_asg rfl) ?_
        refine Ops.to rfl ?_
        refine Cd.region ?_
        refine Ops.q (q_ldB isA_22 rfl .here rfl) ?_
        refine Ops.q (q_mv rfl) ?_
        refine Ops.cm (α := {x : Bts // x.2.2.length ≤ l.length + 4}) (v := fun x => .slice x.1.1 x.1.2.2.length x.1.2.1) (A' := fun x => row x.1.1 x.1.2.1 5 1 x.1.2.2.length (bytesV x.1.2.2) :: blk b2 22 [.slice a l.length c] :: blk S 130 (([.slice na ns.length nc, .int .i64 ip, .slice sa ss.length sc, .map (some M), .int .i64 (now : Int), .slice (some ⟨B, 0, none⟩) ns.length BC] : List Value) ++ q.map (Cp.rcell ns.length)) :: row (some ⟨B, 0, none⟩) BC 133 2 ns.length (sts.flatMap eStt) :: row na nc 62 8 ns.length (ns.flatMap ePrm) :: rd (wφ M E) :: (F ++ q.map (Cp.rrow ns.length))) en_76 rfl (fun w hs => (appB2_c a c l w0 w (blk b2 22 [.slice a l.length c] :: blk S 130 (([.slice na ns.length nc, .int .i64 ip, .slice sa ss.length sc, .map (some M), .int .i64 (now : Int), .slice (some ⟨B, 0, none⟩) ns.length BC] : List Value) ++ q.map (Cp.rcell ns.length)) :: row (some ⟨B, 0, none⟩) BC 133 2 ns.length (sts.flatMap eStt) :: row na nc 62 8 ns.length (ns.flatMap ePrm) :: rd (wφ M E) :: (F ++ q.map (Cp.rrow ns.length))) (by omega) ((((((hs.pull .p5).pull .p5).pull .p5).pull .p5).pull .p4).pull .p5)).mono fun e w' ⟨x, h1, h2, h3⟩ => ⟨⟨x, h2⟩, h1, h3⟩) ?_
        rintro ⟨⟨a13, c14, l15⟩, hl15⟩
        dsimp only at hl15
        refine Ops.stB [.slice a13 l15.length c14] [.slice a13 l15.length c14] sz_22 rfl rfl rfl (one rfl) (.there .here) rfl rfl ?_
        refine Ops.to rfl ?_
        refine Cd.region ?_
        refine Ops.q (q_ar rfl rfl (a_inc (by omega))) ?_
        refine Ops.q (q_mv rfl) ?_
        refine Ops.rnd ((k + 1, a13, c14, l15)) rfl (by dsimp only; exact (⟨by omega, by omega⟩)) (by dsimp only; omega) ⟨rfl, rfl, rfl, rfl, rfl, rfl, rfl, trivial⟩ (fun _ hs => ((((((hs.pull .p5).pull .p5).pull .p5).pull .p5).pull .p4).pull .p5)) 
      · refine Ops.q (q_cmp rfl rfl (c_nlt (by omega))) ?_
        refine Ops.to rfl ?_
        refine Cd.seq ?_
        refine Cd.cond_f rfl ?_
        refine Cd.exitTo rfl ?_
        refine Cd.seq ?_
        refine Cd.region ?_
        refine Ops.q (q_mv rfl) ?_
        refine Ops.q (q_mv rfl) ?_
        refine Ops.q (q_nck rfl) ?_
        refine Ops.q (q_fa fo_81_1 rfl) ?_
        refine Ops.q (q_ld (v := .int .i64 0) isA_3 rfl (fun w hs => Ro.at (hnode w (dropTail (B := F) (((((((hs).drop).drop).drop).drop).drop).drop))) (j := 1) rfl)) ?_
        refine Ops.cv (α := {x : Bts // 1 ≤ x.2.2.length ∧ x.2.2.length ≤ l.length + 3}) (k := 74) (first := []) (caps := [.pointer (some ⟨b2, 0, none⟩)]) (vs := [.int .i64 0]) (v := fun _ => .tuple #[]) (A' := fun z9 => blk b2 22 [.slice z9.1.1 z9.1.2.2.length z9.1.2.1] :: row z9.1.1 z9.1.2.1 5 1 z9.1.2.2.length (bytesV z9.1.2.2) :: blk S 130 (([.slice na ns.length nc, .int .i64 ip, .slice sa ss.length sc, .map (some M), .int .i64 (now : Int), .slice (some ⟨B, 0, none⟩) ns.length BC] : List Value) ++ q.map (Cp.rcell ns.length)) :: row (some ⟨B, 0, none⟩) BC 133 2 ns.length (sts.flatMap eStt) :: row na nc 62 8 ns.length (ns.flatMap ePrm) :: rd (wφ M E) :: (F ++ q.map (Cp.rrow ns.length))) en_74 rfl rfl ?_ ?_
        · intro w hs
          exact (key1_i (0) b2 a c l w0 w (blk S 130 (([.slice na ns.length nc, .int .i64 ip, .slice sa ss.length sc, .map (some M), .int .i64 (now : Int), .slice (some ⟨B, 0, none⟩) ns.length BC] : List Value) ++ q.map (Cp.rcell ns.length)) :: row (some ⟨B, 0, none⟩) BC 133 2 ns.length (sts.flatMap eStt) :: row na nc 62 8 ns.length (ns.flatMap ePrm) :: rd (wφ M E) :: (F ++ q.map (Cp.rrow ns.length))) (by decide) (by omega) (((((((hs.pull .p5).pull .p5).pull .p5).pull .p5).pull .p5).pull .p5))).mono fun e w' ⟨x, h1, h2, h3⟩ => ⟨⟨x, h2⟩, h1, h3⟩
        rintro ⟨⟨a16, c17, l18⟩, hl18⟩
        dsimp only at hl18
        refine Ops.to rfl ?_
        refine Cd.seq ?_
        refine Cd.region ?_
        refine Ops.q (q_ldB isA_22 rfl .here rfl) ?_
        refine Ops.rowpos (.there .here) (by show 0 < l18.length; omega) ?_
        rintro sb h9
        dsimp only at h9
        subst h9
        refine Ops.q (q_b2s (b := sb) (l := l18) el_22 iK_5 sK_9 rfl (.there .here)) ?_
        refine Ops.q (q_asg rfl) ?_
        refine Ops.to rfl ?_
        refine Cd.rt (fn := Tryz.f36) [.string ⟨l18.toArray⟩] (by with_reducible repeat (first | exact rq_here | apply rq_then | apply rq_block)) rfl ⟨rfl, trivial⟩ ?_
        intro w' hs'
        exact ⟨_, rfl, ((((((hs'.pull .p5).pull .p5).pull .p5).pull .p5).pull .p4).drop.pull .p4).drop⟩
end Go.Proofs.YtilcdghliigngaaGreatDoor
namespace Go.Proofs.YtilcdghliigngaaGreatDoor
open Go.RowKit Go.Proofs.YtilcdghliigngaaGreatDoorGl Go.Proofs.YtilcdghliigngaaGreatDoorPm
set_option linter.unusedVariables false
set_option linter.unusedSimpArgs false
theorem env_c (na : Option Addr) (nc : Nat) (sa : Option Addr) (sc : Nat) (ns : List Prm) (ip : Int) (ss : List Syn) (ea : Option Addr) (ec : Nat) (evs : List Evt) (w0 : World) (h : evOK ip evs) (hE : RoL w0 ea eEvt evs) (hec : evs.length ≤ ec) (hel : evs.length ≤ 1000000) : Calls Tryz.prog 25 [.agg [.slice none 0 0, .slice ea evs.length ec, .int .i64 0].toArray, .agg [.slice na ns.length nc, .int .i64 ip, .slice sa ss.length sc].toArray].toArray w0 fun e w' => e = .returned (.int .i64 0) ∧ Sat w0 w' [] := by
  refine fstart Tryz.func25 rfl rfl (Sat.nil w0) ?_
  refine Cd.seq ?_
  refine Cd.region ?_
  refine Ops.box [.slice none 0 0, .slice ea evs.length ec, .int .i64 0] rfl rfl ?_
  intro b1
  refine Ops.box [.slice na ns.length nc, .int .i64 ip, .slice sa ss.length sc] rfl rfl ?_
  intro b2
  refine Ops.q (q_asg rfl) ?_
  refine Ops.to rfl ?_
  refine Cd.seq ?_
  refine Cd.seq ?_
  refine Cd.region ?_
  refine Ops.q (q_fa fo_49_0 rfl) ?_
  refine Ops.q (q_ldB isA_31 rfl (.there .here) rfl) ?_
  refine Ops.q (q_len esz_31 rfl) ?_
  refine Ops.q (q_cmp rfl rfl (c_ngt (by decide))) ?_
  refine Ops.to rfl ?_
  refine Cd.cond_f rfl ?_
  refine Cd.skipTo rfl ?_
  refine Cd.seq ?_
  refine Cd.seq ?_
  refine Cd.region ?_
  refine Ops.q (q_fa fo_49_0 rfl) ?_
  refine Ops.q (q_ldB isA_31 rfl (.there .here) rfl) ?_
  refine Ops.q (q_len esz_31 rfl) ?_
  refine Ops.q (q_mv rfl) ?_
  refine Ops.to rfl ?_
  refine Cd.block ?_
  refine Cd.lp (σ := Unit) (fun _ => True) (fun _ => [(2, .pointer (some ⟨b1, 0, none⟩)), (3, .pointer (some ⟨b2, 0, none⟩)), (4, .int .i64 0), (13, .slice none 0 0), (14, .int .i64 0), (15, .int .i64 0)]) (fun _ => [blk b2 40 [.slice na ns.length nc, .int .i64 ip, .slice sa ss.length sc], blk b1 49 [.slice none 0 0, .slice ea evs.length ec, .int .i64 0]]) (fun _ => 0) () trivial ⟨rfl, rfl, rfl, rfl, rfl, rfl, trivial⟩ (fun _ hs => hs) ?_
  intro s hI
  refine Cd.seq ?_
  refine Cd.region ?_
  refine Ops.q (q_cmp rfl rfl (c_nlt (by decide))) ?_
  refine Ops.to rfl ?_
  refine Cd.seq ?_
  refine Cd.cond_f rfl ?_
  refine Cd.exitTo rfl ?_
  refine Cd.seq ?_
  refine Cd.seq ?_
  refine Cd.region ?_
  refine Ops.q (q_ldBN [.slice na ns.length nc, .int .i64 ip, .slice sa ss.length sc] isA_40 sz_40 rfl .here rfl) ?_
  refine Ops.q (q_fa fo_49_1 rfl) ?_
  refine Ops.q (q_ldB isA_43 rfl (.there .here) rfl) ?_
  refine Ops.cp en_56 rfl (fun w hs => events_c na nc sa sc ns ip ss ea ec evs w h (hE.later hs.below) hec) ?_
  refine Ops.q (q_asg rfl) ?_
  refine Ops.to rfl ?_
  refine Cd.seq ?_
  refine Cd.region ?_
  refine Ops.q (q_mv rfl) ?_
  refine Ops.q (q_cmp rfl rfl (c_nne (by decide))) ?_
  refine Ops.to rfl ?_
  refine Cd.cond_f rfl ?_
  refine Cd.skipTo rfl ?_
  refine Cd.seq ?_
  refine Cd.seq ?_
  refine Cd.region ?_
  refine Ops.q (q_fa fo_49_1 rfl) ?_
  refine Ops.q (q_ldB isA_43 rfl (.there .here) rfl) ?_
  refine Ops.q (q_mkf rfl rfl) ?_
  refine Ops.cm (α := Unit) (v := fun _ => .bool false) (A' := fun _ => [blk b2 40 [.slice na ns.length nc, .int .i64 ip, .slice sa ss.length sc], blk b1 49 [.slice none 0 0, .slice ea evs.length ec, .int .i64 0]]) en_57 rfl ?_ ?_
  · intro w hs
    have h9 := cfunc_evt ea ec evs 58 [.pointer (some ⟨b1, 0, none⟩)] (fun _ => false) w0 w _ (fun w hs => hE.later hs.below) (by omega) en_58 (fun x _ w hs => nofree_c b1 x _ _ w (Ro.ofB hs (.there .here))) hs
    rw [show evs.any (fun _ => false) = false by simp] at h9
    exact h9.mono fun e w' h => ⟨(), h.1, h.2⟩
  intro _
  refine Ops.to rfl ?_
  refine Cd.cond_f rfl ?_
  refine Cd.skipTo rfl ?_
  refine Cd.seq ?_
  refine Cd.region ?_
  refine Ops.q (q_fa fo_49_2 rfl) ?_
  refine Ops.q (q_ldB isA_3 rfl (.there .here) rfl) ?_
  refine Ops.q (q_cmp rfl rfl (c_nlt (by decide))) ?_
  refine Ops.cp en_42 rfl (fun w hs => when0_c _ w) ?_
  refine Ops.q (q_asg rfl) ?_
  refine Ops.to rfl ?_
  refine Cd.rt (fn := Tryz.f25) [.int .i64 0] (by with_reducible repeat (first | exact rq_here | apply rq_then | apply rq_block)) rfl ⟨rfl, trivial⟩ ?_
  intro w' hs'
  exact ⟨rfl, hs'.none⟩
theorem env1_c (b c : Nat) (na : Option Addr) (nc : Nat) (sa : Option Addr) (sc : Nat) (ns : List Prm) (ip : Int) (ss : List Syn) (ea : Option Addr) (ec : Nat) (evs : List Evt) (w : World) (hb : Ro w (some ⟨b, 0, none⟩) [.slice none 0 0, .slice ea evs.length ec, .int .i64 0]) (hc : Ro w (some ⟨c, 0, none⟩) [.slice na ns.length nc, .int .i64 ip, .slice sa ss.length sc]) (h : evOK ip evs) (hE : RoL w ea eEvt evs) (hec : evs.length ≤ ec) (hel : evs.length ≤ 1000000) : Calls Tryz.prog 24 [.pointer (some ⟨b, 0, none⟩), .pointer (some ⟨c, 0, none⟩)].toArray w fun e w' => e = .returned (.int .i64 0) ∧ Sat w w' [] := by
  refine fstart Tryz.func24 rfl rfl (Sat.nil w) ?_
  refine Cd.seq ?_
  refine Cd.region ?_
  refine Ops.q (q_asg rfl) ?_
  refine Ops.to rfl ?_
  refine Cd.seq ?_
  refine Cd.region ?_
  refine Ops.q (q_ldRN [.slice none 0 0, .slice ea evs.length ec, .int .i64 0] isA_49 sz_49 rfl (fun j u hu => Ro.at hb hu)) ?_
  refine Ops.q (q_ldRN [.slice na ns.length nc, .int .i64 ip, .slice sa ss.length sc] isA_40 sz_40 rfl (fun j u hu => Ro.at hc hu)) ?_
  refine Ops.cp en_25 rfl (fun w hs => env_c na nc sa sc ns ip ss ea ec evs w h (hE.later hs.below) hec hel) ?_
  refine Ops.q (q_asg rfl) ?_
  refine Ops.to rfl ?_
  refine Cd.rt (fn := Tryz.f24) [.int .i64 0] (by with_reducible repeat (first | exact rq_here | apply rq_then | apply rq_block)) rfl ⟨rfl, trivial⟩ ?_
  intro w' hs'
  exact ⟨rfl, hs'.none⟩
theorem pat_c (na : Option Addr) (nc : Nat) (sa : Option Addr) (sc : Nat) (ns : List Prm) (ip : Int) (ss : List Syn) (pb po pc : Nat) (qa : Option Addr) (qc m : Nat) (w0 : World) (hP : Ro w0 (some ⟨pb, po, none⟩) [.slice qa 1 qc, .slice none 0 0]) (hQ : RoL w0 qa eInt [(m : Int)]) (hm : m < ns.length) (hn : ns.length ≤ 1000) : Calls Tryz.prog 27 [.agg [.slice na ns.length nc, .int .i64 ip, .slice sa ss.length sc].toArray, .slice (some ⟨pb, po, none⟩) 1 pc].toArray w0 fun e w' => e = .returned (.int .i64 0) ∧ Sat w0 w' [] := by
  refine fstart Tryz.func27 rfl rfl (Sat.nil w0) ?_
  refine Cd.seq ?_
  refine Cd.region ?_
  refine Ops.box [.slice na ns.length nc, .int .i64 ip, .slice sa ss.length sc] rfl rfl ?_
  intro b1
  refine Ops.q (q_asg rfl) ?_
  refine Ops.to rfl ?_
  refine Cd.seq ?_
  refine Cd.block ?_
  refine Cd.seq ?_
  refine Cd.region ?_
  refine Ops.q (q_mv rfl) ?_
  refine Ops.q (q_len esz_52 rfl) ?_
  refine Ops.q (q_cmp rfl rfl (c_ngt (by decide))) ?_
  refine Ops.q (q_asg rfl) ?_
  refine Ops.to rfl ?_
  refine Cd.cond_f rfl ?_
  refine Cd.seq ?_
  refine Cd.region ?_
  refine Ops.q (q_mv rfl) ?_
  refine Ops.q (q_len esz_52 rfl) ?_
  refine Ops.q (q_cmp rfl rfl (c_neq (by decide))) ?_
  refine Ops.q (q_asg rfl) ?_
  refine Ops.to rfl ?_
  refine Cd.cond_f rfl ?_
  refine Cd.skipTo rfl ?_
  refine Cd.seq ?_
  refine Cd.seq ?_
  refine Cd.region ?_
  refine Ops.q (q_mv rfl) ?_
  refine Ops.q (q_len esz_52 rfl) ?_
  refine Ops.q (q_mv rfl) ?_
  refine Ops.to rfl ?_
  refine Cd.block ?_
  refine Cd.lp (σ := Nat) (fun k => k ≤ 1) (fun k => [(1, .slice (some ⟨pb, po, none⟩) 1 pc), (2, .pointer (some ⟨b1, 0, none⟩)), (15, .slice (some ⟨pb, po, none⟩) 1 pc), (16, .int .i64 1), (17, .int .i64 (k : Int))]) (fun k => [blk b1 40 [.slice na ns.length nc, .int .i64 ip, .slice sa ss.length sc]]) (fun k => 1 - k) 0 (Nat.zero_le _) ⟨rfl, rfl, rfl, rfl, rfl, trivial⟩ (fun _ hs => hs) ?_
  intro k hI
  refine Cd.seq ?_
  refine Cd.region ?_
  by_cases hk : (k : Int) < 1
  · refine Ops.q (q_cmp rfl rfl (c_lt hk)) ?_
    refine Ops.to rfl ?_
    refine Cd.seq ?_
    refine Cd.cond_t rfl ?_
    refine Cd.skipTo rfl ?_
    refine Cd.seq ?_
    refine Cd.block ?_
    refine Cd.seq ?_
    refine Cd.region ?_
    refine Ops.q (q_ix (k := k) esz_52 rfl rfl (by omega)) ?_
    refine Ops.q (q_ldRN [.slice qa 1 qc, .slice none 0 0] isA_51 sz_51 rfl (fun j u hu => by have hk0 : k = 0 := (by omega); have h9 := Ro.at hP hu; subst hk0; simpa using h9)) ?_
    refine Ops.alc [.slice none 0 0, .slice none 0 0] zc_51 ?_
    intro b2
    refine Ops.stB [.slice qa 1 qc, .slice none 0 0] [.slice qa 1 qc, .slice none 0 0] sz_51 rfl rfl rfl (one rfl) .here rfl rfl ?_
    refine Ops.to rfl ?_
    refine Cd.seq ?_
    refine Cd.region ?_
    refine Ops.q (q_fa fo_51_0 rfl) ?_
    refine Ops.q (q_ldB isA_31 rfl .here rfl) ?_
    refine Ops.q (q_fa fo_51_1 rfl) ?_
    refine Ops.q (q_ldB isA_31 rfl .here rfl) ?_
    refine Ops.lit [.slice qa 1 qc, .slice none 0 0] el_26 zsb_31 rfl rfl ⟨by decide, by decide⟩ rfl ?_
    intro b3
    refine Ops.cl (α := Option Addr × Nat) (v := fun p => .slice p.1 1 p.2) (B := fun p => [row p.1 p.2 3 1 1 ([(m : Int)].flatMap eInt)]) en_47 rfl (fun w hs => concat_c b3 0 2 [((qa, qc), [(m : Int)]), ((none, 0), [])] w ⟨hs.ownRo .here, fun l hl => by rcases List.mem_cons.1 hl with rfl | hl; (· exact hQ.later hs.below); (· obtain rfl := List.mem_singleton.1 hl; exact Ro.nil _ _)⟩ (by show (2 : Nat) ≤ 1000; decide) (by show (1 : Nat) ≤ 1 ∧ (1 : Nat) ≤ 1000000; decide)) ?_
    rintro ⟨da, dc⟩
    refine Ops.q (q_mkf rfl rfl) ?_
    refine Ops.cm (α := Unit) (v := fun _ => .bool false) (A' := fun _ => [row da dc 3 1 1 ([(m : Int)].flatMap eInt), row (some ⟨b3, 0, none⟩) 2 31 1 2 [.slice qa 1 qc, .slice none 0 0], blk b2 51 [.slice qa 1 qc, .slice none 0 0], blk b1 40 [.slice na ns.length nc, .int .i64 ip, .slice sa ss.length sc]]) en_60 rfl ?_ ?_
    · intro w hs
      have h9 := cfunc_int da dc [(m : Int)] 61 [.pointer (some ⟨b1, 0, none⟩)] (fun _ => false) w0 w _ (fun w hs => hs.ownRo .here) (by show (1 : Nat) ≤ 1000000; decide) en_61 (fun x hx w hs => inside_c b1 na ns.length nc _ _ x w (Ro.ofB hs .p3) (by obtain rfl := List.mem_singleton.1 hx; omega) (by omega)) hs
      rw [show ([(m : Int)] : List Int).any (fun _ => false) = false from rfl] at h9
      exact h9.mono fun e w' h => ⟨(), h.1, h.2⟩
    intro _
    refine Ops.to rfl ?_
    refine Cd.cond_f rfl ?_
    refine Cd.skipTo rfl ?_
    refine Cd.region ?_
    refine Ops.q (q_ar rfl rfl (a_inc (by omega))) ?_
    refine Ops.q (q_mv rfl) ?_
    refine Ops.rnd (k + 1) rfl (by omega) (by omega) ⟨rfl, rfl, rfl, rfl, rfl, trivial⟩ (fun _ hs => (((hs.pull .here).drop.pull .here).drop.pull .here).drop) 
  · refine Ops.q (q_cmp rfl rfl (c_nlt (by omega))) ?_
    refine Ops.to rfl ?_
    refine Cd.seq ?_
    refine Cd.cond_f rfl ?_
    refine Cd.exitTo rfl ?_
    refine Cd.seq ?_
    refine Cd.region ?_
    refine Ops.q (q_asg rfl) ?_
    refine Ops.to rfl ?_
    refine Cd.rt (fn := Tryz.f27) [.int .i64 0] (by with_reducible repeat (first | exact rq_here | apply rq_then | apply rq_block)) rfl ⟨rfl, trivial⟩ ?_
    intro w' hs'
    exact ⟨rfl, hs'.none⟩
theorem pat1_c (b c : Nat) (na : Option Addr) (nc : Nat) (sa : Option Addr) (sc : Nat) (ns : List Prm) (ip : Int) (ss : List Syn) (pb po pc : Nat) (qa : Option Addr) (qc m : Nat) (w : World) (hb : Ro w (some ⟨b, 0, none⟩) [.slice na ns.length nc, .int .i64 ip, .slice sa ss.length sc]) (hc : Ro w (some ⟨c, 0, none⟩) [.slice (some ⟨pb, po, none⟩) 1 pc]) (hP : Ro w (some ⟨pb, po, none⟩) [.slice qa 1 qc, .slice none 0 0]) (hQ : RoL w qa eInt [(m : Int)]) (hm : m < ns.length) (hn : ns.length ≤ 1000) : Calls Tryz.prog 26 [.pointer (some ⟨b, 0, none⟩), .pointer (some ⟨c, 0, none⟩)].toArray w fun e w' => e = .returned (.int .i64 0) ∧ Sat w w' [] := by
  refine fstart Tryz.func26 rfl rfl (Sat.nil w) ?_
  refine Cd.seq ?_
  refine Cd.region ?_
  refine Ops.q (q_asg rfl) ?_
  refine Ops.to rfl ?_
  refine Cd.seq ?_
  refine Cd.region ?_
  refine Ops.q (q_ldRN [.slice na ns.length nc, .int .i64 ip, .slice sa ss.length sc] isA_40 sz_40 rfl (fun j u hu => Ro.at hb hu)) ?_
  refine Ops.q (q_ldR (v := .slice (some ⟨pb, po, none⟩) 1 pc) isA_52 rfl (by simpa using Ro.at hc (j := 0) rfl)) ?_
  refine Ops.cp en_27 rfl (fun w hs => pat_c na nc sa sc ns ip ss pb po pc qa qc m w (hP.later hs.below) (hQ.later hs.below) hm hn) ?_
  refine Ops.q (q_asg rfl) ?_
  refine Ops.to rfl ?_
  refine Cd.rt (fn := Tryz.f26) [.int .i64 0] (by with_reducible repeat (first | exact rq_here | apply rq_then | apply rq_block)) rfl ⟨rfl, trivial⟩ ?_
  intro w' hs'
  exact ⟨rfl, hs'.none⟩
end Go.Proofs.YtilcdghliigngaaGreatDoor
namespace Go.Proofs.YtilcdghliigngaaGreatDoorGl
open Go.RowKit
set_option linter.unusedVariables false
set_option linter.unusedSimpArgs false
def exB {β : Type} (B : β → List Atom) : Atom where
  P := fun w S => ∃ b, Sats w (B b) S
  loc := fun h hs => let ⟨b, h1⟩ := h; ⟨b, Sats.loc h1 hs⟩
  lt := fun h hk => let ⟨b, h1⟩ := h; Sats.lt h1 _ hk
theorem Sat.exI {β : Type} {B : β → List Atom} {w0 w : World} {A : List Atom} (y : β) (h : Sat w0 w (B y ++ A)) : Sat w0 w (exB B :: A) := by
  obtain ⟨hB, T, ⟨S, U, h1, h2, h3, h4⟩, ht⟩ := Sat.bundle h
  exact ⟨hB, T, ⟨S, U, ⟨y, h1⟩, h2, h3, h4⟩, ht⟩
theorem Sat.exE {β : Type} {B : β → List Atom} {w0 w : World} {A : List Atom} (h : Sat w0 w (exB B :: A)) : ∃ y, Sat w0 w (B y ++ A) := by
  obtain ⟨hB, T, ⟨S, U, ⟨y, h1⟩, h2, h3, h4⟩, ht⟩ := h
  exact ⟨y, Sat.unbundle ⟨hB, T, ⟨S, U, h1, h2, h3, h4⟩, ht⟩⟩
theorem Cd.exE {β : Type} {B : β → List Atom} {P : Program} {r : Option Nat} {c : Code} {Q : Exit → Act → World → Prop} {w0 : World} {n : Nat} {D : List Deferred} {L : Env} {A : List Atom} (h : ∀ y, Cd P r c Q w0 n D L (B y ++ A)) : Cd P r c Q w0 n D L (exB B :: A) := fun a w hk hs => by
  obtain ⟨y, hy⟩ := hs.exE
  exact h y a w hk hy
theorem Sat.bunCons {a : Atom} {B A : List Atom} {w0 w : World} (h : Sat w0 w (a :: bun B :: A)) : Sat w0 w (bun (a :: B) :: A) :=
  Sat.bundle (B := a :: B) (Sat.push (a := a) (by
    have h1 := h.pull (.there .here)
    have h2 := h1.unbundle
    exact h2.pull (Pull.right .here B)) .here)
theorem Sat.bunNil {A : List Atom} {w0 w : World} (h : Sat w0 w A) : Sat w0 w (bun [] :: A) := Sat.bundle (B := []) h
end Go.Proofs.YtilcdghliigngaaGreatDoorGl
namespace Go.Proofs.YtilcdghliigngaaGreatDoor
open Go.RowKit Go.Proofs.YtilcdghliigngaaGreatDoorGl Go.Proofs.YtilcdghliigngaaGreatDoorPm
set_option linter.unusedVariables false
set_option linter.unusedSimpArgs false
section
variable {w0 w : World} {S nc sc m M now B BC : Nat} {na sa : Option Addr} {ns : List Prm} {ip : Int} {E : List WEnt} {sts : List Stt} {q : List Cp.RQ} {F : List Atom}
theorem to_simA (h : Sat w0 w (bun (simO S na nc sa sc ns ip m M now B BC sts q) :: row na nc 62 8 ns.length (ns.flatMap ePrm) :: rd (wφ M E) :: F)) : Sat w0 w (Cp.simA S na nc sa sc ns ip m M E now B BC sts q F) :=
  Sat.swapTail (A := [_, _]) (B := q.map (Cp.rrow ns.length)) (C := row na nc 62 8 ns.length (ns.flatMap ePrm) :: rd (wφ M E) :: F) h.unbundle
theorem of_simA (h : Sat w0 w (Cp.simA S na nc sa sc ns ip m M E now B BC sts q F)) : Sat w0 w (bun (simO S na nc sa sc ns ip m M now B BC sts q) :: row na nc 62 8 ns.length (ns.flatMap ePrm) :: rd (wφ M E) :: F) :=
  Sat.bundle (B := simO S na nc sa sc ns ip m M now B BC sts q) (Sat.swapTail (A := [_, _]) (B := row na nc 62 8 ns.length (ns.flatMap ePrm) :: rd (wφ M E) :: F) (C := q.map (Cp.rrow ns.length)) h)
theorem of_new (h : Sat w0 w (Cp.simA S na nc sa sc ns ip m M E now B BC sts q [] ++ F)) : Sat w0 w (bun (simO S na nc sa sc ns ip m M now B BC sts q) :: row na nc 62 8 ns.length (ns.flatMap ePrm) :: rd (wφ M E) :: F) :=
  of_simA (Sat.swapTail (A := [_, _, _, _]) (B := q.map (Cp.rrow ns.length)) (C := F) h)
end
structure RchI (ns : List Prm) (ip : Int) (ss : List Syn) (evs : List Evt) (F : Nat → Nat → Bool) (idl : Nat → List Int) (V : Nat → Nat → Int) : Prop where
  ok : netCheck ⟨ns, ip, ss⟩ = 0
  net : NetI ns ss idl
  V0 : ∀ d, V 0 d = 0
  inB : ∀ t d, d < ns.length → -4611686018427387904 ≤ inX ss F idl t d ∧ inX ss F idl t d ≤ 4611686018427387904
  step : ∀ (t d : Nat) (p : Prm), ns[d]? = some p → stepV p (V t d) (inX ss F idl t d) = (V (t + 1) d, F t d)
  due : ∀ t j d, 0 ≤ dueY ss F idl t j d ∧ dueY ss F idl t j d ≤ 99
  Vb : ∀ t d, d < ns.length → 0 ≤ V t d ∧ V t d ≤ 1
  fl0 : ∀ (d : Nat) (p : Prm), ns[d]? = some p → p.fl = 0
  known : ∀ t, kn evs t = idl t
  asc : ∀ t, (idl t).Pairwise (· < ·) ∧ (idl t).length ≤ 12 ∧ ∀ i ∈ idl t, 0 ≤ i ∧ i < ip
  evOK : evOK ip evs
structure InvT (ns : List Prm) (ss : List Syn) (F : Nat → Nat → Bool) (idl : Nat → List Int) (V : Nat → Nat → Int) (t : Nat) (sts : List Stt) (q : List Cp.RQ) : Prop where
  st : sts.length = ns.length
  rg : Cp.ringOK ns.length q
  sim : SimI ns ss F idl V t sts (q.map (·.2))
def fl (F : Nat → Nat → Bool) (N t : Nat) : List Int := ((List.range N).filter (F t)).map (fun d : Nat => (d : Int))
theorem fl_mem {F : Nat → Nat → Bool} {N t m : Nat} (hm : m < N) : (m : Int) ∈ fl F N t ↔ F t m = true := by
  unfold fl
  constructor
  · intro h
    obtain ⟨d, hd, e⟩ := List.mem_map.1 h
    obtain rfl : d = m := Int.ofNat.inj e
    exact (List.mem_filter.1 hd).2
  · intro h
    exact List.mem_map.2 ⟨m, List.mem_filter.2 ⟨List.mem_range.2 hm, h⟩, rfl⟩
theorem fl_len (F : Nat → Nat → Bool) (N t : Nat) : (fl F N t).length ≤ N := by
  unfold fl
  rw [List.length_map]
  have := List.length_filter_le (F t) (List.range N)
  rw [List.length_range] at this; exact this
section
variable {ns : List Prm} {ip : Int} {ss : List Syn} {evs : List Evt} {F : Nat → Nat → Bool} {idl : Nat → List Int} {V : Nat → Nat → Int}
theorem InvT.copy {t : Nat} {sts : List Stt} {q z : List Cp.RQ} (h : InvT ns ss F idl V t sts q) (hz : z.map (·.2) = q.map (·.2)) : InvT ns ss F idl V t sts z := by
  have hl : z.length = q.length := by have := congrArg List.length hz; simpa using this
  refine ⟨h.st, ⟨by rw [hl]; exact h.rg.1, fun x hx => ?_⟩, by rw [hz]; exact h.sim⟩
  have h1 : x.2 ∈ z.map (·.2) := List.mem_map.2 ⟨x, hx, rfl⟩
  rw [hz] at h1
  obtain ⟨y, hy, e⟩ := List.mem_map.1 h1
  rw [← e]; exact h.rg.2 y hy
theorem InvT.start (hR : RchI ns ip ss evs F idl V) {q : List Cp.RQ} (h16 : q.length = 16) (h0 : ∀ y ∈ q, y.2 = List.replicate ns.length 0) : InvT ns ss F idl V 0 (List.replicate ns.length ⟨0, 0⟩) q := by
  refine ⟨by simp, ⟨h16, fun x hx => by rw [h0 x hx]; simp⟩, ?_⟩
  refine ⟨⟨by simpa using h16, fun j r hr => ?_⟩, ⟨by simp, fun d s hs => ?_⟩, fun j d hj hd => ?_, fun d p hp => ?_⟩
  · rw [List.getElem?_map] at hr
    obtain ⟨x, hx, rfl⟩ := Option.map_eq_some_iff.1 hr
    rw [h0 x (List.mem_iff_getElem?.2 ⟨_, hx⟩)]; simp
  · rw [hR.V0]
    obtain ⟨_, e⟩ := List.getElem?_eq_some_iff.1 hs
    rw [← e]; simp
  · have e : dueY ss F idl 0 j d = 0 := by
      unfold dueY
      refine sumI_zero (fun s hs => ?_)
      rw [if_neg]
      rintro ⟨_, h1, h2, _⟩
      have := hR.net.syn s hs
      simp at h2
      omega
    rw [e]
    unfold rgc
    obtain ⟨x, hx⟩ : ∃ x, q[(0 + j) % 16]? = some x := ⟨_, List.getElem?_eq_getElem (by omega)⟩
    rw [List.getElem?_map, hx]
    have := h0 x (List.mem_iff_getElem?.2 ⟨_, hx⟩)
    simp [this, hd]
    rfl
  · rw [hR.V0, hR.fl0 d p hp]; unfold wi; omega
theorem InvT.vals (hR : RchI ns ip ss evs F idl V) {t : Nat} {sts : List Stt} {q : List Cp.RQ} (h : InvT ns ss F idl V t sts q) : (∀ x ∈ q, ∀ v ∈ x.2, 0 ≤ v ∧ v ≤ 99) ∧ ∀ s ∈ sts, (0 ≤ s.v ∧ s.v ≤ 99) ∧ 0 ≤ s.rest ∧ s.rest ≤ 99 := by
  constructor
  · intro x hx v hv
    obtain ⟨i, hi⟩ := List.mem_iff_getElem?.1 hx
    obtain ⟨d, hd⟩ := List.mem_iff_getElem?.1 hv
    have hi16 : i < 16 := by have := (List.getElem?_eq_some_iff.1 hi).1; have := h.rg.1; omega
    have hdn : d < ns.length := by have := (List.getElem?_eq_some_iff.1 hd).1; have := h.rg.2 x hx; omega
    have h1 := h.sim.ring ((i + 16 - t % 16) % 16) d (by omega) hdn
    rw [show (t + (i + 16 - t % 16) % 16) % 16 = i by omega] at h1
    have h2 : rgc (q.map (·.2)) i d = v := by
      unfold rgc
      rw [List.getElem?_map, hi]
      simp [hd]
    have h3 := hR.due t ((i + 16 - t % 16) % 16) d
    rw [h2, W64_id (by omega)] at h1
    omega
  · intro s hs
    obtain ⟨d, hd⟩ := List.mem_iff_getElem?.1 hs
    have h1 := h.sim.sts.2 d s hd
    have h2 := hR.Vb t d (by have := (List.getElem?_eq_some_iff.1 hd).1; have := h.st; omega)
    subst h1
    dsimp only
    omega
theorem InvT.next (hR : RchI ns ip ss evs F idl V) {t : Nat} {sts : List Stt} {q : List Cp.RQ} (h : InvT ns ss F idl V t sts q) {x0 : Cp.RQ} {T : List (Stt × Bool)} (hx0 : q[t % 16]? = some x0) (hT : T = tickAll ns sts x0.2) :
    fireI 0 T = fl F ns.length t ∧ InvT ns ss F idl V (t + 1) (T.map (·.1)) ((metS ss (fireI 0 T) (idl t)).foldl (Cp.addQ t) (Cp.clrQ t ns.length q)) := by
  have h1 := sim_step hR.net h.sim (hR.inB t) (fun d p hp => hR.step t d p hp)
  have h2 := Cp.stepR_eq (ss := ss) (ids := idl t) hx0 hT
  rw [h2] at h1
  have hTl : T.length = ns.length := by rw [hT]; exact tickAll_length h.st (h.rg.2 x0 (List.mem_iff_getElem?.2 ⟨_, hx0⟩))
  exact ⟨h1.2, by rw [List.length_map]; exact hTl, Cp.ringOK.addAll _ (Cp.ringOK.clr h.rg), h1.1⟩
end
end Go.Proofs.YtilcdghliigngaaGreatDoor
namespace Go.Proofs.YtilcdghliigngaaGreatDoor
open Go.RowKit Go.Proofs.YtilcdghliigngaaGreatDoorGl Go.Proofs.YtilcdghliigngaaGreatDoorPm
set_option linter.unusedVariables false
set_option linter.unusedSimpArgs false
theorem Sat.front {w0 w : World} {X Y Z : List Atom} (h : Sat w0 w (X ++ (Y ++ Z))) : Sat w0 w (Y ++ (X ++ Z)) := by
  have h1 := Sat.swapTail (A := []) (B := X) (C := Y ++ Z) h
  rw [List.nil_append, List.append_assoc] at h1
  exact Sat.swapTail (A := Y) (B := Z) (C := X) h1
section
variable {ns : List Prm} {ip : Int} {ss : List Syn} {evs : List Evt} {F : Nat → Nat → Bool} {idl : Nat → List Int} {V : Nat → Nat → Int}
variable {S nc sc M B BC t : Nat} {na sa : Option Addr} {E : List WEnt} {sts : List Stt} {q : List Cp.RQ} {G : List Atom} {w0 w : World}
abbrev CopyS (ns : List Prm) (ss : List Syn) (F : Nat → Nat → Bool) (idl : Nat → List Int) (V : Nat → Nat → Int) (t : Nat) (sts : List Stt) := {x : Nat × Nat × Nat × List Cp.RQ // InvT ns ss F idl V t sts x.2.2.2}
theorem copyI (hR : RchI ns ip ss evs F idl V) (h : InvT ns ss F idl V t sts q) (hs : Sat w0 w (bun (simO S na nc sa sc ns ip ss.length M t B BC sts q) :: row na nc 62 8 ns.length (ns.flatMap ePrm) :: rd (wφ M E) :: G)) :
    Calls Tryz.prog 30 [.pointer (some ⟨S, 0, none⟩)].toArray w fun e w' => ∃ x : CopyS ns ss F idl V t sts, e = .returned (.pointer (some ⟨x.1.1, 0, none⟩)) ∧ Sat w0 w' (bun (simO x.1.1 na nc sa sc ns ip ss.length M t x.1.2.1 x.1.2.2.1 sts x.1.2.2.2) :: bun (simO S na nc sa sc ns ip ss.length M t B BC sts q) :: row na nc 62 8 ns.length (ns.flatMap ePrm) :: rd (wφ M E) :: G) := by
  obtain ⟨hn0, hn1, _⟩ := netCheck_ok hR.ok
  refine (copy_c S na nc sa sc ns ip ss M E t B BC sts q G w0 w hn0 (by omega) h.st h.rg (to_simA hs)).mono fun e w' ⟨x, h1, h2, h3⟩ => ⟨⟨x, h.copy h2⟩, h1, ?_⟩
  exact Sat.bundle (Sat.front (X := [_, _, _]) (of_simA h3))
theorem stepI (hR : RchI ns ip ss evs F idl V) (h : InvT ns ss F idl V t sts q) (hW : WI E ss) (ht : t < 10000) {ia : Option Addr} {ic : Nat} {ids : List Int} (hasc : ids.Pairwise (· < ·)) (hidr : ∀ i ∈ ids, 0 ≤ i ∧ i < ip) (hil : ids.length ≤ 100)
    (hs : Sat w0 w (bun (simO S na nc sa sc ns ip ss.length M t B BC sts q) :: row na nc 62 8 ns.length (ns.flatMap ePrm) :: rd (wφ M E) :: row ia ic 3 1 ids.length (ids.flatMap eInt) :: G)) :
    Calls Tryz.prog 31 [.pointer (some ⟨S, 0, none⟩), .slice ia ids.length ic].toArray w fun e w' => ∃ x : {x : Option Addr × Nat × List Stt × List Cp.RQ // ids = idl t → InvT ns ss F idl V (t + 1) x.2.2.1 x.2.2.2}, e = .returned (.tuple [.slice x.1.1 (fl F ns.length t).length x.1.2.1, .int .i64 0].toArray) ∧
      Sat w0 w' (bun (simO S na nc sa sc ns ip ss.length M (t + 1) B BC x.1.2.2.1 x.1.2.2.2) :: row na nc 62 8 ns.length (ns.flatMap ePrm) :: rd (wφ M E) :: row x.1.1 x.1.2.1 3 1 (fl F ns.length t).length ((fl F ns.length t).flatMap eInt) :: G) := by
  obtain ⟨hn0, hn1, hs1, hi0, hi1, _, hsy⟩ := netCheck_ok hR.ok
  obtain ⟨x0, hx0⟩ : ∃ x, q[t % 16]? = some x := ⟨_, List.getElem?_eq_getElem (by have := h.rg.1; omega)⟩
  obtain ⟨hf, hn⟩ := h.next hR hx0 rfl
  refine (Step_c S na nc sa sc ns ip ss M E t B BC sts q G ia ic ids x0 _ w0 w hn0 ⟨hi0, hi1⟩ hasc hidr hil hW (fun s hs => ?_) hs1 (by omega) h.st h.rg ht hx0 rfl (to_simA hs)).mono fun e w' ⟨p, h1, h2⟩ => ?_
  · have := synE_ok (hsy s hs); exact ⟨this.2.1, this.2.2.2⟩
  · rw [hf] at h1 h2
    refine ⟨⟨(p.1, p.2, _, _), fun e => ?_⟩, h1, of_simA h2⟩
    subst e
    rw [hf] at hn
    exact hn
theorem keyI (hR : RchI ns ip ss evs F idl V) (h : InvT ns ss F idl V t sts q) (ht : t ≤ 10000) (nb tb tc : Nat) (v3 v4 : Value) (hnode : ∀ w, Sat w0 w G → Ro w (some ⟨nb, 0, none⟩) [.pointer (some ⟨S, 0, none⟩), .int .i64 0, .slice (some ⟨tb, 0, none⟩) 1 tc, v3, v4]) (hdone : ∀ w, Sat w0 w G → RoL w (some ⟨tb, 0, none⟩) eBool [true])
    (hs : Sat w0 w (bun (simO S na nc sa sc ns ip ss.length M t B BC sts q) :: row na nc 62 8 ns.length (ns.flatMap ePrm) :: rd (wφ M E) :: G)) :
    Calls Tryz.prog 36 [.pointer (some ⟨nb, 0, none⟩)].toArray w fun e w' => ∃ s : ByteArray, e = .returned (.string s) ∧ Sat w0 w' (bun (simO S na nc sa sc ns ip ss.length M t B BC sts q) :: row na nc 62 8 ns.length (ns.flatMap ePrm) :: rd (wφ M E) :: G) := by
  obtain ⟨hn0, hn1, _⟩ := netCheck_ok hR.ok
  obtain ⟨hv1, hv2⟩ := h.vals hR
  exact (key_c nb tb tc v3 v4 S na nc sa sc ns ip ss M E t B BC sts q G w0 w hn0 (by omega) h.st h.rg hv1 ht hv2 hnode hdone (to_simA hs)).mono fun e w' ⟨s, h1, h2⟩ => ⟨s, h1, of_simA h2⟩
end
def NodeF (nb S tb tc d : Nat) (w : World) : Prop := Chain w (some ⟨nb, 0, none⟩) d ∧ (∃ v3 v4, Ro w (some ⟨nb, 0, none⟩) [.pointer (some ⟨S, 0, none⟩), .int .i64 0, .slice (some ⟨tb, 0, none⟩) 1 tc, v3, v4]) ∧ RoL w (some ⟨tb, 0, none⟩) eBool [true]
theorem ro_of_blkP {b : Nat} {T : TypeId} {cs : List Value} {w : World} {S : Nat → Prop} (h : (blk b T cs).P w S) : Ro w (some ⟨b, 0, none⟩) cs := fun j u hu => ⟨b, 0, rfl, by rw [Nat.zero_add]; exact (cell_of_blk h.1 j).trans hu⟩
theorem node_first {w0 w : World} {nb S tb tc : Nat} {A : List Atom} (h : Sat w0 w (blk nb 81 [.pointer (some ⟨S, 0, none⟩), .int .i64 0, .slice (some ⟨tb, 0, none⟩) 1 tc, .pointer none, .slice none 0 0] :: row (some ⟨tb, 0, none⟩) tc 4 1 1 [.bool true] :: A)) : Sat w0 w (rd (NodeF nb S tb tc 1) :: A) := by
  have h1 := Sat.froz (ψ := fun w => RoL w (some ⟨tb, 0, none⟩) eBool [true]) (h.pull (.there .here)) (fun w S h => ro_of_rowP h)
  exact Sat.merge (h1.pull (.there .here)) (fun w S h h' => ⟨.node (gs := []) (ro_of_blkP h) (Ro.nil _ _) (Nat.zero_le _) .nil, ⟨_, _, ro_of_blkP h⟩, h'⟩)
theorem node_next {w0 w : World} {nb S tb tc d pb pS ptb ptc gc : Nat} {ga : Option Addr} {gs : List Evt} {A : List Atom} (hg : gs.length ≤ 100) (h : Sat w0 w (blk nb 81 [.pointer (some ⟨S, 0, none⟩), .int .i64 0, .slice (some ⟨tb, 0, none⟩) 1 tc, .pointer (some ⟨pb, 0, none⟩), .slice ga gs.length gc] :: row (some ⟨tb, 0, none⟩) tc 4 1 1 [.bool true] :: row ga gc 70 2 gs.length (gs.flatMap eEvt) :: rd (NodeF pb pS ptb ptc d) :: A)) : Sat w0 w (rd (NodeF nb S tb tc (d + 1)) :: A) := by
  have h1 := Sat.merge (ψ := fun w => Chain w (some ⟨pb, 0, none⟩) d ∧ RoL w ga eEvt gs) ((h.pull .p2).pull .p3 |>.pull (.there .here)) (fun w S h h' => ⟨h'.1, ro_of_rowP h⟩)
  have h2 := Sat.merge (ψ := fun w => (Chain w (some ⟨pb, 0, none⟩) d ∧ RoL w ga eEvt gs) ∧ RoL w (some ⟨tb, 0, none⟩) eBool [true]) (h1.pull .p2) (fun w S h h' => ⟨h', ro_of_rowP h⟩)
  exact Sat.merge (h2.pull (.there .here)) (fun w S h h' => ⟨.node (ro_of_blkP h) h'.1.2 hg h'.1.1, ⟨_, _, ro_of_blkP h⟩, h'.2⟩)
end Go.Proofs.YtilcdghliigngaaGreatDoor
namespace Go.Proofs.YtilcdghliigngaaGreatDoor
open Go.RowKit Go.Proofs.YtilcdghliigngaaGreatDoorGl Go.Proofs.YtilcdghliigngaaGreatDoorPm
set_option linter.unusedVariables false
set_option linter.unusedSimpArgs false
def RchR (F : Nat → Nat → Bool) (m T : Nat) (w0 : World) (e : Ending) (w' : World) : Prop :=
  (∃ (a : Option Addr) (n c : Nat), (∃ t : Nat, t < T ∧ F t m = true ∧ (∀ t', t' < t → F t' m = false) ∧ e = .returned (.tuple [.slice a n c, .int .i64 (t : Int), .bool true, .int .i64 0].toArray)) ∨ ((∀ t, t < T → F t m = false) ∧ e = .returned (.tuple [.slice a n c, .int .i64 0, .bool false, .int .i64 0].toArray))) ∧ Sat w0 w' []
theorem atL_len (t : Nat) (ids : List Int) : (atL t ids).length = ids.length := by unfold atL; exact List.length_map _
theorem at_c2 (t : Nat) (ia : Option Addr) (ic : Nat) (ids : List Int) (w : World) (hX : RoL w ia eInt ids) (hl : ids.length ≤ 1000) : Calls Tryz.prog 35 [.int .i64 (t : Int), .slice ia ids.length ic].toArray w fun e w' => ∃ p : Option Addr × Nat, e = .returned (.slice p.1 (atL t ids).length p.2) ∧ Sat w w' [row p.1 p.2 70 2 (atL t ids).length ((atL t ids).flatMap eEvt)] := by
  rw [atL_len t ids]; exact at_c t ia ic ids w hX hl
abbrev dmk : Nat → Deferred := Go.Proofs.YtilcdghliigngaaGreatDoorGl.mark
theorem mpT_92 : mpT Tryz.prog 92 = some (9, 4) := by kernel_rfl
theorem zv_4 : zvT Tryz.prog 4 = some (.bool false) := by kernel_rfl
theorem nil_third {w0 w : World} {a b c : Atom} {A : List Atom} {E : TypeId} {sz : Nat} (h : Sat w0 w (a :: b :: c :: A)) : Sat w0 w (a :: b :: c :: row none 0 E sz 0 [] :: A) :=
  (((h.nilRow E sz).pull .p3).pull .p3).pull .p3
theorem reach_c (na : Option Addr) (nc : Nat) (sa : Option Addr) (sc : Nat) (ns : List Prm) (ip : Int) (ss : List Syn) (ea : Option Addr) (ec : Nat) (evs : List Evt) (pb po pc : Nat) (qa : Option Addr) (qc m T : Nat) (F : Nat → Nat → Bool) (idl : Nat → List Int) (V : Nat → Nat → Int) (w0 : World) (hN : RoL w0 na ePrm ns) (hS : RoL w0 sa eSyn ss) (hE : RoL w0 ea eEvt evs) (hec : evs.length ≤ ec) (hel : evs.length ≤ 1000) (hR : RchI ns ip ss evs F idl V) (hnl : ns.length ≤ 1000) (hP : Ro w0 (some ⟨pb, po, none⟩) [.slice qa 1 qc, .slice none 0 0]) (hQ : RoL w0 qa eInt [(m : Int)]) (hm : m < ns.length) (hT : T ≤ 900) : Calls Tryz.prog 10 [.agg [.slice na ns.length nc, .int .i64 ip, .slice sa ss.length sc].toArray, .agg [.slice none 0 0, .slice ea evs.length ec, .int .i64 0].toArray, .slice (some ⟨pb, po, none⟩) 1 pc, .int .i64 (T : Int)].toArray w0 (RchR F m T w0) := by
  refine fstartM Tryz.func10 rfl rfl (Sat.nil w0) ?_
  refine Cd.seq ?_
  refine Cd.region ?_
  obtain ⟨hn0, hn1, hs1, hi0, hi1, _, hsy⟩ := netCheck_ok hR.ok
  refine Ops.box [.slice na ns.length nc, .int .i64 ip, .slice sa ss.length sc] rfl rfl ?_
  intro b1
  refine Ops.box [.slice none 0 0, .slice ea evs.length ec, .int .i64 0] rfl rfl ?_
  intro b2
  refine Ops.box [.slice (some ⟨pb, po, none⟩) 1 pc] rfl rfl ?_
  intro b3
  refine Ops.alc [.slice none 0 0] zc_43 ?_
  intro b4
  refine Ops.alc [.int .i64 0] zc_3 ?_
  intro b5
  refine Ops.alc [.bool false] zc_4 ?_
  intro b6
  refine Ops.alc [.int .i64 0] zc_33 ?_
  intro b7
  refine Ops.to rfl ?_
  refine Cd.seq ?_
  refine Cd.region ?_
  refine Ops.q (q_mkf rfl rfl) ?_
  refine Ops.q (q_mkf rfl rfl) ?_
  refine Ops.q (q_mkf rfl rfl) ?_
  refine Ops.q (q_mv rfl) ?_
  refine Ops.cl (α := Nat) (v := fun b => .func (.func 62) #[] #[.pointer (some ⟨b, 0, none⟩)]) (B := fun b => [blk b 3 [.int .i64 (T : Int)]]) en_28 rfl (fun w hs => timed_c _ w) ?_
  intro b8
  refine Ops.lit [.func (.func 22) #[] #[.pointer (some ⟨b1, 0, none⟩)], .func (.func 24) #[] #[.pointer (some ⟨b2, 0, none⟩), .pointer (some ⟨b1, 0, none⟩)], .func (.func 26) #[] #[.pointer (some ⟨b1, 0, none⟩), .pointer (some ⟨b3, 0, none⟩)], .func (.func 62) #[] #[.pointer (some ⟨b8, 0, none⟩)]] el_115 zsb_58 rfl rfl ⟨by decide, by decide⟩ rfl ?_
  intro b9
  have hf : ∀ f ∈ ([(22, [.pointer (some ⟨b1, 0, none⟩)]), (24, [.pointer (some ⟨b2, 0, none⟩), .pointer (some ⟨b1, 0, none⟩)]), (26, [.pointer (some ⟨b1, 0, none⟩), .pointer (some ⟨b3, 0, none⟩)]), (62, [.pointer (some ⟨b8, 0, none⟩)])] : List FnV), Enters Tryz.prog f.1 ∧ ∀ w, Sat w0 w ([row (some ⟨b9, 0, none⟩) 4 58 1 4 [.func (.func 22) #[] #[.pointer (some ⟨b1, 0, none⟩)], .func (.func 24) #[] #[.pointer (some ⟨b2, 0, none⟩), .pointer (some ⟨b1, 0, none⟩)], .func (.func 26) #[] #[.pointer (some ⟨b1, 0, none⟩), .pointer (some ⟨b3, 0, none⟩)], .func (.func 62) #[] #[.pointer (some ⟨b8, 0, none⟩)]], blk b8 3 [.int .i64 (T : Int)], blk b7 33 [.int .i64 0], blk b6 4 [.bool false], blk b5 3 [.int .i64 0], blk b4 43 [.slice none 0 0], blk b3 52 [.slice (some ⟨pb, po, none⟩) 1 pc], blk b2 49 [.slice none 0 0, .slice ea evs.length ec, .int .i64 0], blk b1 40 [.slice na ns.length nc, .int .i64 ip, .slice sa ss.length sc]]) → Calls Tryz.prog f.1 ([] ++ [] ++ f.2).toArray w fun e w' => e = .returned (.int .i64 0) ∧ Sat w w' [] := by
    intro f hf
    simp only [List.mem_cons, List.not_mem_nil, or_false] at hf
    rcases hf with rfl | rfl | rfl | rfl
    · exact ⟨en_22, fun w hs => by have h9 := rchk_c b1 na nc sa sc ns ip ss w (Ro.ofB hs .p8) (hN.later hs.below) (hS.later hs.below); rw [hR.ok] at h9; exact h9⟩
    · exact ⟨en_24, fun w hs => env1_c b2 b1 na nc sa sc ns ip ss ea ec evs w (Ro.ofB hs .p7) (Ro.ofB hs .p8) hR.evOK (hE.later hs.below) hec (by omega)⟩
    · exact ⟨en_26, fun w hs => pat1_c b1 b3 na nc sa sc ns ip ss pb po pc qa qc m w (Ro.ofB hs .p8) (Ro.ofB hs .p6) (hP.later hs.below) (hQ.later hs.below) hm hnl⟩
    · exact ⟨en_62, fun w hs => timed1_c b8 (T : Int) w (Ro.ofB hs (.there .here)) (by omega)⟩
  refine Ops.cm (α := Unit) (v := fun _ => .int .i64 0) (A' := fun _ => [row (some ⟨b9, 0, none⟩) 4 58 1 4 [.func (.func 22) #[] #[.pointer (some ⟨b1, 0, none⟩)], .func (.func 24) #[] #[.pointer (some ⟨b2, 0, none⟩), .pointer (some ⟨b1, 0, none⟩)], .func (.func 26) #[] #[.pointer (some ⟨b1, 0, none⟩), .pointer (some ⟨b3, 0, none⟩)], .func (.func 62) #[] #[.pointer (some ⟨b8, 0, none⟩)]], blk b8 3 [.int .i64 (T : Int)], blk b7 33 [.int .i64 0], blk b6 4 [.bool false], blk b5 3 [.int .i64 0], blk b4 43 [.slice none 0 0], blk b3 52 [.slice (some ⟨pb, po, none⟩) 1 pc], blk b2 49 [.slice none 0 0, .slice ea evs.length ec, .int .i64 0], blk b1 40 [.slice na ns.length nc, .int .i64 ip, .slice sa ss.length sc]]) en_21 rfl (fun w hs => (first_c b9 4 ([(22, [.pointer (some ⟨b1, 0, none⟩)]), (24, [.pointer (some ⟨b2, 0, none⟩), .pointer (some ⟨b1, 0, none⟩)]), (26, [.pointer (some ⟨b1, 0, none⟩), .pointer (some ⟨b3, 0, none⟩)]), (62, [.pointer (some ⟨b8, 0, none⟩)])] : List FnV) w0 w ([blk b8 3 [.int .i64 (T : Int)], blk b7 33 [.int .i64 0], blk b6 4 [.bool false], blk b5 3 [.int .i64 0], blk b4 43 [.slice none 0 0], blk b3 52 [.slice (some ⟨pb, po, none⟩) 1 pc], blk b2 49 [.slice none 0 0, .slice ea evs.length ec, .int .i64 0], blk b1 40 [.slice na ns.length nc, .int .i64 ip, .slice sa ss.length sc]]) (by show (4 : Nat) ≤ 100; decide) hf hs).mono fun e w' h => ⟨(), h.1, h.2⟩) ?_
  intro _
  refine Ops.q (q_asg rfl) ?_
  refine Ops.to rfl ?_
  refine Cd.seq ?_
  refine Cd.seq ?_
  refine Cd.region ?_
  refine Ops.q (q_mv rfl) ?_
  refine Ops.q (q_cmp rfl rfl (c_nne (by decide))) ?_
  refine Ops.to rfl ?_
  refine Cd.cond_f rfl ?_
  refine Cd.skipTo rfl ?_
  refine Cd.seq ?_
  refine Cd.region ?_
  refine Ops.q (q_ldBN [.slice na ns.length nc, .int .i64 ip, .slice sa ss.length sc] isA_40 sz_40 rfl .p8 rfl) ?_
  refine Ops.cl (α := {x : SimS // WI x.E ss ∧ x.q.length = 16 ∧ (∀ y ∈ x.q, y.2 = List.replicate ns.length 0) ∧ x.sts = List.replicate ns.length ⟨0, 0⟩}) (v := fun x => .tuple [.pointer (some ⟨x.1.S, 0, none⟩), .int .i64 0].toArray) (B := fun x => Cp.simA x.1.S x.1.na x.1.nc sa sc ns ip ss.length x.1.M x.1.E 0 x.1.B x.1.BC x.1.sts x.1.q []) en_29 rfl (fun w hs => new_c na nc sa sc ns ip ss w (hN.later hs.below) (hS.later hs.below) hR.ok) ?_
  rintro ⟨⟨S, ma, mc, M, E, B, BC, sts, q⟩, hW, hq16, hq0, hsts⟩
  dsimp only at hW hq16 hq0 hsts
  subst hsts
  have hI0 := InvT.start hR hq16 hq0
  refine Ops.sat (A' := [bun (simO S ma mc sa sc ns ip ss.length M (0) B BC (List.replicate ns.length ⟨0, 0⟩) q), row ma mc 62 8 ns.length (ns.flatMap ePrm), rd (wφ M E), row (some ⟨b9, 0, none⟩) 4 58 1 4 [.func (.func 22) #[] #[.pointer (some ⟨b1, 0, none⟩)], .func (.func 24) #[] #[.pointer (some ⟨b2, 0, none⟩), .pointer (some ⟨b1, 0, none⟩)], .func (.func 26) #[] #[.pointer (some ⟨b1, 0, none⟩), .pointer (some ⟨b3, 0, none⟩)], .func (.func 62) #[] #[.pointer (some ⟨b8, 0, none⟩)]], blk b8 3 [.int .i64 (T : Int)], blk b7 33 [.int .i64 0], blk b6 4 [.bool false], blk b5 3 [.int .i64 0], blk b4 43 [.slice none 0 0], blk b3 52 [.slice (some ⟨pb, po, none⟩) 1 pc], blk b2 49 [.slice none 0 0, .slice ea evs.length ec, .int .i64 0], blk b1 40 [.slice na ns.length nc, .int .i64 ip, .slice sa ss.length sc]]) ?_ (fun _ hs => of_new hs)
  refine Ops.q (q_mv rfl) ?_
  refine Ops.q (q_ext rfl rfl) ?_
  refine Ops.q (q_ext rfl rfl) ?_
  refine Ops.q (q_asg rfl) ?_
  refine Ops.q (q_asg rfl) ?_
  refine Ops.to rfl ?_
  refine Cd.seq ?_
  refine Cd.draw rfl (by kernel_rfl) (.cons .p10 (.cons .p9 .nil)) ?_
  intro F10 St11 hP12 hF13 hR14
  refine Dr.q (i := 0) hP12 rfl (by kernel_rfl) (q_mv rfl) ?_
  refine Dr.q (i := 1) hP12 rfl (by kernel_rfl) (q_fa fo_49_2 rfl) ?_
  refine Dr.q (i := 2) hP12 rfl (by kernel_rfl) (q_ldB isA_3 rfl .here rfl) ?_
  refine Dr.q (i := 3) hP12 rfl (by kernel_rfl) (q_ldB isA_52 rfl (.there .here) rfl) ?_
  refine Dr.q (i := 4) hP12 rfl (by kernel_rfl) (q_len esz_52 rfl) ?_
  refine Dr.e (i := 5) rfl (by kernel_rfl) ?_
  refine Ops.mks (m := 1) el_27 zsb_4 rfl rfl (by omega) (by omega) ?_
  intro b15
  refine Dr.back (fun _ hs => hF13 (.there .here) hs) ?_
  refine Dr.q (i := 6) hP12 rfl (by kernel_rfl) (q_bld [.pointer (some ⟨S, 0, none⟩), .int .i64 0, .slice (some ⟨b15, 0, none⟩) 1 1, .pointer none, .slice none 0 0] pls_81 zc_81 rfl rfl) ?_
  refine Dr.e (i := 7) rfl (by kernel_rfl) ?_
  refine Ops.box [.pointer (some ⟨S, 0, none⟩), .int .i64 0, .slice (some ⟨b15, 0, none⟩) 1 1, .pointer none, .slice none 0 0] rfl rfl ?_
  intro b16
  refine Dr.back (fun _ hs => hF13 .p2 hs) ?_
  refine Dr.tail 8 (by kernel_rfl) ?_
  refine Ops.sat ?_ (fun _ hs => hR14 .p2 hs)
  refine Ops.q (q_asg rfl) ?_
  refine Ops.to rfl ?_
  refine Cd.seq ?_
  refine Cd.region ?_
  refine Ops.q (q_mv rfl) ?_
  refine Ops.q (q_nck rfl) ?_
  refine Ops.q (q_fa fo_81_2 rfl) ?_
  refine Ops.q (q_ldB isA_27 rfl .p2 rfl) ?_
  refine Ops.q (q_ix (k := 0) esz_27 rfl rfl (by omega)) ?_
  refine Ops.stO [.bool true] [.bool true] sz_4 rfl rfl rfl (one rfl) .p3 (by decide) rfl ?_
  refine Ops.to rfl ?_
  refine Cd.seq ?_
  refine Cd.region ?_
  refine Ops.q (q_ldB isA_52 rfl (.there .here) rfl) ?_
  refine Ops.q (q_len esz_52 rfl) ?_
  refine Ops.q (q_ar (v := 0) rfl rfl (a_sub (by decide))) ?_
  refine Ops.alc [.int .i64 0] zc_3 ?_
  intro b17
  refine Ops.stB [.int .i64 0] [.int .i64 0] sz_3 rfl rfl rfl (one rfl) .here rfl rfl ?_
  refine Ops.to rfl ?_
  refine Cd.seq ?_
  refine Cd.region ?_
  refine Ops.q (q_mv rfl) ?_
  refine Ops.lit [.pointer (some ⟨b16, 0, none⟩)] el_82 zsb_79 rfl rfl ⟨by decide, by decide⟩ rfl ?_
  intro b18
  refine Ops.q (q_asg rfl) ?_
  refine Ops.to rfl ?_
  refine Cd.seq ?_
  refine Cd.seq ?_
  refine Cd.region ?_
  refine Ops.q (q_mv rfl) ?_
  refine Ops.q (q_mv rfl) ?_
  refine Ops.to rfl ?_
  refine Cd.block ?_
  refine Cd.lpD (σ := Nat × Nat × Nat × Nat × List Stt × List Cp.RQ × Nat × Nat × Nat × Nat × Option Addr × Nat × List Nat) (fun s => s.1 ≤ T ∧ s.2.2.2.2.2.2.2.2.2.1 ≤ s.1 + 1 ∧ InvT ns ss F idl V s.1 s.2.2.2.2.1 s.2.2.2.2.2.1 ∧ ∀ t', t' < s.1 → F t' m = false) (fun s => [(4, .pointer (some ⟨b1, 0, none⟩)), (5, .pointer (some ⟨b2, 0, none⟩)), (6, .pointer (some ⟨b3, 0, none⟩)), (8, .pointer (some ⟨b4, 0, none⟩)), (9, .pointer (some ⟨b5, 0, none⟩)), (10, .pointer (some ⟨b6, 0, none⟩)), (11, .pointer (some ⟨b7, 0, none⟩)), (16, .pointer (some ⟨b17, 0, none⟩)), (17, .slice s.2.2.2.2.2.2.2.2.2.2.1 1 s.2.2.2.2.2.2.2.2.2.2.2.1), (69, .int .i64 (T : Int)), (70, .int .i64 (s.1 : Int))]) (fun s => [bun (s.2.2.2.2.2.2.2.2.2.2.2.2.map dblk), rd (NodeF s.2.2.2.2.2.2.1 s.2.1 s.2.2.2.2.2.2.2.1 s.2.2.2.2.2.2.2.2.1 (s.2.2.2.2.2.2.2.2.2.1)), bun (simO s.2.1 ma mc sa sc ns ip ss.length M (s.1) s.2.2.1 s.2.2.2.1 s.2.2.2.2.1 s.2.2.2.2.2.1), row ma mc 62 8 ns.length (ns.flatMap ePrm), rd (wφ M E), row s.2.2.2.2.2.2.2.2.2.2.1 s.2.2.2.2.2.2.2.2.2.2.2.1 79 1 1 [.pointer (some ⟨s.2.2.2.2.2.2.1, 0, none⟩)], blk b1 40 [.slice na ns.length nc, .int .i64 ip, .slice sa ss.length sc], blk b2 49 [.slice none 0 0, .slice ea evs.length ec, .int .i64 0], blk b3 52 [.slice (some ⟨pb, po, none⟩) 1 pc], blk b4 43 [.slice none 0 0], blk b5 3 [.int .i64 0], blk b6 4 [.bool false], blk b7 33 [.int .i64 0], blk b17 3 [.int .i64 0]]) (fun s => (s.2.2.2.2.2.2.2.2.2.2.2.2).map dmk) (fun s => T - s.1) (0, S, B, BC, List.replicate ns.length ⟨0, 0⟩, q, b16, b15, 1, 1, some ⟨b18, 0, none⟩, 1, []) ⟨Nat.zero_le _, Nat.le_refl _, hI0, fun t' h => by cases h⟩ rfl ⟨rfl, rfl, rfl, rfl, rfl, rfl, rfl, rfl, rfl, rfl, rfl, trivial⟩ (fun _ hs => Sat.bunNil (node_first (((((((((((((((((hs.pull (.there .here)).pull .p11).pull .p12).pull .p13).pull .p14).pull .p7).pull .p7).pull .p15).pull .p8).pull .p13).pull .p13).pull .p13).pull .p13).pull .p13).pull .p14).drop.pull .p14).drop))) ?_
  rintro ⟨t, S, B, BC, sts, q, nb, tb, tc, d, ra, rc, ds⟩ hI
  dsimp only at hI
  obtain ⟨hI1, hI2, hI3, hI4⟩ := hI
  change Cd _ _ _ _ _ _ (ds.map dmk) [(4, .pointer (some ⟨b1, 0, none⟩)), (5, .pointer (some ⟨b2, 0, none⟩)), (6, .pointer (some ⟨b3, 0, none⟩)), (8, .pointer (some ⟨b4, 0, none⟩)), (9, .pointer (some ⟨b5, 0, none⟩)), (10, .pointer (some ⟨b6, 0, none⟩)), (11, .pointer (some ⟨b7, 0, none⟩)), (16, .pointer (some ⟨b17, 0, none⟩)), (17, .slice ra 1 rc), (69, .int .i64 (T : Int)), (70, .int .i64 (t : Int))] ([bun (ds.map dblk), rd (NodeF nb S tb tc (d)), bun (simO S ma mc sa sc ns ip ss.length M (t) B BC sts q), row ma mc 62 8 ns.length (ns.flatMap ePrm), rd (wφ M E), row ra rc 79 1 1 [.pointer (some ⟨nb, 0, none⟩)], blk b1 40 [.slice na ns.length nc, .int .i64 ip, .slice sa ss.length sc], blk b2 49 [.slice none 0 0, .slice ea evs.length ec, .int .i64 0], blk b3 52 [.slice (some ⟨pb, po, none⟩) 1 pc], blk b4 43 [.slice none 0 0], blk b5 3 [.int .i64 0], blk b6 4 [.bool false], blk b7 33 [.int .i64 0], blk b17 3 [.int .i64 0]])
  have hkn := hR.known t
  have hka := hR.asc t
  rw [← hkn] at hka
  refine Cd.seq ?_
  refine Cd.region ?_
  by_cases h19 : (t : Int) < (T : Int)
  · refine Ops.q (q_cmp rfl rfl (c_lt h19)) ?_
    refine Ops.to rfl ?_
    refine Cd.seq ?_
    refine Cd.cond_t rfl ?_
    refine Cd.skipTo rfl ?_
    refine Cd.seq ?_
    refine Cd.block ?_
    refine Cd.seq ?_
    refine Cd.region ?_
    refine Ops.q (q_mv rfl) ?_
    refine Ops.alc [.int .i64 0] zc_3 ?_
    intro b20
    refine Ops.stB [.int .i64 (t : Int)] [.int .i64 (t : Int)] sz_3 rfl rfl rfl (one rfl) .here rfl rfl ?_
    refine Ops.to rfl ?_
    refine Cd.seq ?_
    refine Cd.seq ?_
    refine Cd.region ?_
    refine Ops.q (q_mv rfl) ?_
    refine Ops.q (q_len esz_82 rfl) ?_
    refine Ops.q (q_mv rfl) ?_
    refine Ops.to rfl ?_
    refine Cd.block ?_
    refine Cd.lp (σ := Nat) (fun k => k ≤ 1 ∧ (k = 1 → F t m = false)) (fun k => [(4, .pointer (some ⟨b1, 0, none⟩)), (5, .pointer (some ⟨b2, 0, none⟩)), (6, .pointer (some ⟨b3, 0, none⟩)), (8, .pointer (some ⟨b4, 0, none⟩)), (9, .pointer (some ⟨b5, 0, none⟩)), (10, .pointer (some ⟨b6, 0, none⟩)), (11, .pointer (some ⟨b7, 0, none⟩)), (16, .pointer (some ⟨b17, 0, none⟩)), (17, .slice ra 1 rc), (69, .int .i64 (T : Int)), (18, .pointer (some ⟨b20, 0, none⟩)), (70, .int .i64 (t : Int)), (73, .slice ra 1 rc), (74, .int .i64 1), (75, .int .i64 (k : Int))]) (fun k => [bun (ds.map dblk), rd (NodeF nb S tb tc (d)), bun (simO S ma mc sa sc ns ip ss.length M (t) B BC sts q), row ma mc 62 8 ns.length (ns.flatMap ePrm), rd (wφ M E), row ra rc 79 1 1 [.pointer (some ⟨nb, 0, none⟩)], blk b1 40 [.slice na ns.length nc, .int .i64 ip, .slice sa ss.length sc], blk b2 49 [.slice none 0 0, .slice ea evs.length ec, .int .i64 0], blk b3 52 [.slice (some ⟨pb, po, none⟩) 1 pc], blk b4 43 [.slice none 0 0], blk b5 3 [.int .i64 0], blk b6 4 [.bool false], blk b7 33 [.int .i64 0], blk b17 3 [.int .i64 0], blk b20 3 [.int .i64 (t : Int)]]) (fun k => 1 - k) 0 ⟨Nat.zero_le _, fun h => by cases h⟩ ⟨rfl, rfl, rfl, rfl, rfl, rfl, rfl, rfl, rfl, rfl, rfl, rfl, rfl, rfl, rfl, trivial⟩ (fun _ hs => (((((((((((((((hs.pull .here).pull .p14).pull .p14).pull .p14).pull .p14).pull .p14).pull .p14).pull .p14).pull .p14).pull .p14).pull .p14).pull .p14).pull .p14).pull .p14).pull .p14)) ?_
    intro k hI
    have hIk := hI.1
    refine Cd.seq ?_
    refine Cd.region ?_
    by_cases hk : (k : Int) < 1
    · refine Ops.q (q_cmp rfl rfl (c_lt hk)) ?_
      obtain rfl : k = 0 := by omega
      refine Ops.rowpos .p5 (by decide) ?_
      rintro rb rfl
      refine Ops.to rfl ?_
      refine Cd.seq ?_
      refine Cd.cond_t rfl ?_
      refine Cd.skipTo rfl ?_
      refine Cd.seq ?_
      refine Cd.block ?_
      refine Cd.seq ?_
      refine Cd.region ?_
      refine Ops.q (q_ix (k := 0) esz_82 rfl rfl (by omega)) ?_
      refine Ops.q (q_ldO isA_79 rfl .p5 rfl) ?_
      refine Ops.q (q_asg rfl) ?_
      refine Ops.to rfl ?_
      refine Cd.seq ?_
      refine Cd.region ?_
      refine Ops.q (q_mv rfl) ?_
      refine Ops.q (q_nck rfl) ?_
      refine Ops.q (q_fa fo_81_0 rfl) ?_
      refine Ops.q (q_ld (v := .pointer (some ⟨S, 0, none⟩)) isA_76 rfl (fun w hs => by obtain ⟨_, ⟨_, _, h9⟩, _⟩ := hs.read (.there .here); exact Ro.at h9 (j := 0) rfl)) ?_
      refine Ops.cm (α := CopyS ns ss F idl V t sts) (v := fun x => .pointer (some ⟨x.1.1, 0, none⟩)) (A' := fun x => [bun (simO x.1.1 ma mc sa sc ns ip ss.length M (t) x.1.2.1 x.1.2.2.1 sts x.1.2.2.2), bun (simO S ma mc sa sc ns ip ss.length M (t) B BC sts q), row ma mc 62 8 ns.length (ns.flatMap ePrm), rd (wφ M E), bun (ds.map dblk), rd (NodeF nb S tb tc (d)), row (some ⟨rb, 0, none⟩) rc 79 1 1 [.pointer (some ⟨nb, 0, none⟩)], blk b1 40 [.slice na ns.length nc, .int .i64 ip, .slice sa ss.length sc], blk b2 49 [.slice none 0 0, .slice ea evs.length ec, .int .i64 0], blk b3 52 [.slice (some ⟨pb, po, none⟩) 1 pc], blk b4 43 [.slice none 0 0], blk b5 3 [.int .i64 0], blk b6 4 [.bool false], blk b7 33 [.int .i64 0], blk b17 3 [.int .i64 0], blk b20 3 [.int .i64 (t : Int)]]) en_30 rfl (fun w hs => copyI hR hI3 ((((((((((((((((hs.pull .p14).pull .p14).pull .p14).pull .p14).pull .p14).pull .p14).pull .p14).pull .p14).pull .p14).pull .p14).pull .p11).pull .p11).pull .p14).pull .p14).pull .p14))) ?_
      rintro ⟨⟨S1, B1, BC1, q1⟩, hc1⟩
      dsimp only at hc1
      refine Ops.cm (α := {x : Option Addr × Nat × List Stt × List Cp.RQ // ([] : List Int) = idl t → InvT ns ss F idl V (t + 1) x.2.2.1 x.2.2.2}) (v := fun x => .tuple [.slice x.1.1 (fl F ns.length t).length x.1.2.1, .int .i64 0].toArray) (A' := fun x => [bun (simO S1 ma mc sa sc ns ip ss.length M (t + 1) B1 BC1 x.1.2.2.1 x.1.2.2.2), row ma mc 62 8 ns.length (ns.flatMap ePrm), rd (wφ M E), row x.1.1 x.1.2.1 3 1 ((fl F ns.length t).length) ((fl F ns.length t).flatMap eInt), bun (simO S ma mc sa sc ns ip ss.length M (t) B BC sts q), bun (ds.map dblk), rd (NodeF nb S tb tc (d)), row (some ⟨rb, 0, none⟩) rc 79 1 1 [.pointer (some ⟨nb, 0, none⟩)], blk b1 40 [.slice na ns.length nc, .int .i64 ip, .slice sa ss.length sc], blk b2 49 [.slice none 0 0, .slice ea evs.length ec, .int .i64 0], blk b3 52 [.slice (some ⟨pb, po, none⟩) 1 pc], blk b4 43 [.slice none 0 0], blk b5 3 [.int .i64 0], blk b6 4 [.bool false], blk b7 33 [.int .i64 0], blk b17 3 [.int .i64 0], blk b20 3 [.int .i64 (t : Int)]]) en_31 rfl (fun w hs => stepI hR hc1 hW (by omega) (ids := []) List.Pairwise.nil (fun i hi => by cases hi) (by decide) (nil_third (((((((((((((((((hs.pull .p15).pull .p15).pull .p15).pull .p15).pull .p15).pull .p15).pull .p15).pull .p15).pull .p15).pull .p15).pull .p15).pull .p15).pull .p13).pull .p15).pull .p15).pull .p15)))) ?_
      rintro ⟨⟨fa, fc, sts1, q9⟩, _⟩
      refine Ops.q (q_mv rfl) ?_
      refine Ops.q (q_ext rfl rfl) ?_
      refine Ops.q (q_ext rfl rfl) ?_
      refine Ops.q (q_asg rfl) ?_
      refine Ops.q (q_asg rfl) ?_
      refine Ops.to rfl ?_
      refine Cd.seq ?_
      cases hF : F t m
      · refine Cd.draw rfl (by kernel_rfl) (.cons .p10 (.cons .p14 (.cons .p6 .nil))) ?_
        intro F21 St22 hP23 hF24 hR25
        refine Dr.q (i := 0) hP23 rfl (by kernel_rfl) (q_mv rfl) ?_
        refine Dr.q (i := 1) hP23 rfl (by kernel_rfl) (q_nck rfl) ?_
        refine Dr.q (i := 2) hP23 rfl (by kernel_rfl) (q_fa fo_81_2 rfl) ?_
        refine Dr.q (i := 3) hP23 rfl (by kernel_rfl) (q_ld (v := .slice (some ⟨tb, 0, none⟩) 1 tc) isA_27 rfl (fun w hs => by obtain ⟨_, ⟨_, _, h9⟩, _⟩ := hs.read .p2; exact Ro.at h9 (j := 2) rfl)) ?_
        refine Dr.q (i := 4) hP23 rfl (by kernel_rfl) (q_ldB isA_3 rfl (.there .here) rfl) ?_
        refine Dr.q (i := 5) hP23 rfl (by kernel_rfl) (q_ix (k := 0) esz_27 rfl rfl (by omega)) ?_
        refine Dr.q (i := 6) hP23 rfl (by kernel_rfl) (q_ld (v := .bool true) isA_4 rfl (fun w hs => RoL.at0 (hs.read .p2).2.2 eBool_len (k := 0) rfl rfl)) ?_
        refine Dr.q (i := 7) hP23 rfl (by kernel_rfl) (q_mv rfl) ?_
        refine Dr.q (i := 8) hP23 rfl (by kernel_rfl) (q_ldB isA_52 rfl .here rfl) ?_
        refine Dr.q (i := 9) hP23 rfl (by kernel_rfl) (q_ldB isA_3 rfl (.there .here) rfl) ?_
        refine Dr.q (i := 10) hP23 rfl (by kernel_rfl) (q_ix (k := 0) esz_52 rfl rfl (by omega)) ?_
        refine Dr.q (i := 11) hP23 rfl (by kernel_rfl) (q_ldRN [.slice qa 1 qc, .slice none 0 0] isA_51 sz_51 rfl (fun j u hu => by have h9 := Ro.at hP hu; simpa using h9)) ?_
        refine Dr.q (i := 12) hP23 rfl (by kernel_rfl) (q_mv rfl) ?_
        refine Dr.e (i := 13) rfl (by kernel_rfl) ?_
        refine Ops.cp (v := .bool false) en_32 rfl (fun w hs => by have h9 := shown_c qa qc (m : Int) fa fc (fl F ns.length t) w (hQ.later hs.below) (hs.ownRo .p4) (by have := fl_len F ns.length t; omega); rw [show decide ((m : Int) ∈ fl F ns.length t) = false from decide_eq_false (fun h => by rw [(fl_mem hm).1 h] at hF; cases hF)] at h9; exact h9) ?_
        refine Dr.back (fun _ hs => hF24 .here hs) ?_
        refine Dr.q (i := 14) hP23 rfl (by kernel_rfl) (q_pickT rfl rfl) ?_
        refine Dr.tail 15 (by kernel_rfl) ?_
        refine Ops.sat ?_ (fun _ hs => hR25 .here hs)
        refine Ops.to rfl ?_
        refine Cd.cond_f rfl ?_
        refine Cd.skipTo rfl ?_
        refine Cd.region ?_
        refine Ops.q (q_ar rfl rfl (a_inc (by first | omega | decide))) ?_
        refine Ops.q (q_mv rfl) ?_
        refine Ops.rnd (1) rfl (⟨Nat.le_refl _, fun _ => by first | exact hF | rfl⟩) (by decide) ⟨rfl, rfl, rfl, rfl, rfl, rfl, rfl, rfl, rfl, rfl, rfl, rfl, rfl, rfl, rfl, trivial⟩ (fun _ hs => (((((((((((((((((hs.pull .p16).pull .p2).pull .p16).pull .p16).pull .p16).pull .p16).pull .p6).pull .p16).pull .p16).pull .p16).pull .p13).pull .p13).pull .p15).pull .p13).pull .p16).pull .p15).drop.pull .p15).drop) 
      · refine Cd.draw rfl (by kernel_rfl) (.cons .p10 (.cons .p14 (.cons .p6 .nil))) ?_
        intro F26 St27 hP28 hF29 hR30
        refine Dr.q (i := 0) hP28 rfl (by kernel_rfl) (q_mv rfl) ?_
        refine Dr.q (i := 1) hP28 rfl (by kernel_rfl) (q_nck rfl) ?_
        refine Dr.q (i := 2) hP28 rfl (by kernel_rfl) (q_fa fo_81_2 rfl) ?_
        refine Dr.q (i := 3) hP28 rfl (by kernel_rfl) (q_ld (v := .slice (some ⟨tb, 0, none⟩) 1 tc) isA_27 rfl (fun w hs => by obtain ⟨_, ⟨_, _, h9⟩, _⟩ := hs.read .p2; exact Ro.at h9 (j := 2) rfl)) ?_
        refine Dr.q (i := 4) hP28 rfl (by kernel_rfl) (q_ldB isA_3 rfl (.there .here) rfl) ?_
        refine Dr.q (i := 5) hP28 rfl (by kernel_rfl) (q_ix (k := 0) esz_27 rfl rfl (by omega)) ?_
        refine Dr.q (i := 6) hP28 rfl (by kernel_rfl) (q_ld (v := .bool true) isA_4 rfl (fun w hs => RoL.at0 (hs.read .p2).2.2 eBool_len (k := 0) rfl rfl)) ?_
        refine Dr.q (i := 7) hP28 rfl (by kernel_rfl) (q_mv rfl) ?_
        refine Dr.q (i := 8) hP28 rfl (by kernel_rfl) (q_ldB isA_52 rfl .here rfl) ?_
        refine Dr.q (i := 9) hP28 rfl (by kernel_rfl) (q_ldB isA_3 rfl (.there .here) rfl) ?_
        refine Dr.q (i := 10) hP28 rfl (by kernel_rfl) (q_ix (k := 0) esz_52 rfl rfl (by omega)) ?_
        refine Dr.q (i := 11) hP28 rfl (by kernel_rfl) (q_ldRN [.slice qa 1 qc, .slice none 0 0] isA_51 sz_51 rfl (fun j u hu => by have h9 := Ro.at hP hu; simpa using h9)) ?_
        refine Dr.q (i := 12) hP28 rfl (by kernel_rfl) (q_mv rfl) ?_
        refine Dr.e (i := 13) rfl (by kernel_rfl) ?_
        refine Ops.cp (v := .bool true) en_32 rfl (fun w hs => by have h9 := shown_c qa qc (m : Int) fa fc (fl F ns.length t) w (hQ.later hs.below) (hs.ownRo .p4) (by have := fl_len F ns.length t; omega); rw [show decide ((m : Int) ∈ fl F ns.length t) = true from decide_eq_true ((fl_mem hm).2 hF)] at h9; exact h9) ?_
        refine Dr.back (fun _ hs => hF29 .here hs) ?_
        refine Dr.q (i := 14) hP28 rfl (by kernel_rfl) (q_pickT rfl rfl) ?_
        refine Dr.tail 15 (by kernel_rfl) ?_
        refine Ops.sat ?_ (fun _ hs => hR30 .here hs)
        refine Ops.to rfl ?_
        refine Cd.cond_t rfl ?_
        refine Cd.seq ?_
        refine Cd.region ?_
        refine Ops.q (q_mv rfl) ?_
        refine Ops.cl (α := {x : Option Addr × Nat × List Evt // x.2.2.length ≤ 100 * d}) (v := fun x => .slice x.1.1 x.1.2.2.length x.1.2.1) (B := fun x => [row x.1.1 x.1.2.1 70 2 x.1.2.2.length (x.1.2.2.flatMap eEvt)]) en_33 rfl (fun w hs => (noderun_c d (some ⟨nb, 0, none⟩) w (by omega) (hs.read .p2).1).mono fun e w' ⟨x, h1, h2, h3⟩ => ⟨⟨x, h2⟩, h1, h3⟩) ?_
        rintro ⟨⟨xa, xc, xs⟩, hxl⟩
        dsimp only at hxl
        refine Ops.alc [.slice none 0 0] zc_43 ?_
        intro b31
        refine Ops.stB [.slice xa xs.length xc] [.slice xa xs.length xc] sz_43 rfl rfl rfl (one rfl) .here rfl rfl ?_
        refine Ops.to rfl ?_
        refine Cd.seq ?_
        refine Cd.seq ?_
        refine Cd.region ?_
        refine Ops.q (q_fa fo_49_1 rfl) ?_
        refine Ops.q (q_ldB isA_43 rfl .p13 rfl) ?_
        refine Ops.q (q_bld [.slice none 0 0, .slice ea evs.length ec, .int .i64 0] pls_49 zc_49 rfl rfl) ?_
        refine Ops.q (q_ldB isA_3 rfl (.there (.there .p16)) rfl) ?_
        refine Ops.cl (α := Nat × Nat × Nat) (v := fun x => .func (.func 71) #[] #[.pointer (some ⟨x.1, 0, none⟩), .pointer (some ⟨x.2.1, 0, none⟩), .pointer (some ⟨x.2.2, 0, none⟩)]) (B := fun x => [blk x.1 49 [.slice none 0 0, .slice ea evs.length ec, .int .i64 0], blk x.2.1 3 [.int .i64 (t : Int)], blk x.2.2 3 [.int .i64 0]]) en_34 rfl (fun w hs => choices_c ea ec evs t w) ?_
        rintro ⟨c1, c2, c3⟩
        refine Ops.to rfl ?_
        refine Cd.block ?_
        refine Cd.range1 (k := 71) (caps := [.pointer (some ⟨c1, 0, none⟩), .pointer (some ⟨c2, 0, none⟩), .pointer (some ⟨c3, 0, none⟩)]) (enc := fun x : Option Addr × Nat => [.slice x.1 (kn evs t).length x.2, .int .i64 0]) (BX := fun x : Option Addr × Nat => row x.1 x.2 3 1 ((kn evs t).length) ((kn evs t).flatMap eInt)) (X := [blk c1 49 [.slice none 0 0, .slice ea evs.length ec, .int .i64 0], blk c2 3 [.int .i64 (t : Int)], blk c3 3 [.int .i64 0]]) (β := Unit) ([blk b31 43 [.slice xa xs.length xc], row xa xc 70 2 xs.length (xs.flatMap eEvt), blk b20 3 [.int .i64 (t : Int)], blk b4 43 [.slice none 0 0], blk b5 3 [.int .i64 0], blk b6 4 [.bool false], blk b7 33 [.int .i64 0], bun (ds.map dblk)]) (fun _ => [exB (fun y : Option Addr × Nat × List Evt => [blk b31 43 [.slice y.1 y.2.2.length y.2.1], row y.1 y.2.1 70 2 y.2.2.length (y.2.2.flatMap eEvt)]), blk b20 3 [.int .i64 (t : Int)], blk b4 43 [.slice none 0 0], blk b5 3 [.int .i64 0], blk b6 4 [.bool false], blk b7 33 [.int .i64 0], bun (ds.map dblk)]) (fun x _ => [(24, .slice x.1 ((kn evs t).length) x.2), (23, .pointer (some ⟨b31, 0, none⟩)), (18, .pointer (some ⟨b20, 0, none⟩))]) (fun x _ => [row x.1 x.2 3 1 ((kn evs t).length) ((kn evs t).flatMap eInt), blk b31 43 [.slice xa xs.length xc], row xa xc 70 2 xs.length (xs.flatMap eEvt), blk b20 3 [.int .i64 (t : Int)], blk b4 43 [.slice none 0 0], blk b5 3 [.int .i64 0], blk b6 4 [.bool false], blk b7 33 [.int .i64 0], bun (ds.map dblk)]) (choices_it c1 c2 c3 ea ec evs t w0 hE hel hka.1 hka.2.1) en_71 rfl (fun _ hs => ((((((((((((((((((((((hs.pull .p2).pull .p2).pull .p2).pull .p13).pull (.there (.there (.there (.there .p16))))).pull (.there (.there (.there (.there .p16))))).pull (.there (.there (.there (.there .p16))))).pull (.there (.there (.there (.there .p16))))).pull (.there (.there (.there (.there (.there .p16)))))).pull .p10).pull .p10).pull .p11).drop.pull .p11).drop.pull .p11).drop.pull .p11).drop.pull .p11).drop.pull .p11).drop.pull .p11).drop.pull .p11).drop.pull .p11).drop.pull .p11).drop.pull .p11).drop) rfl (fun _ => rfl) ?_ ?_ rfl ?_
        · intro l Y x
          refine Cd.region ?_
          refine Ops.q (q_asg rfl) ?_
          exact Ops.mid () ⟨rfl, rfl, rfl, trivial⟩ (fun _ hs => hs)
        · rintro l Y ⟨ga, gc⟩ b
          change Cd _ _ _ _ _ _ _ [(24, .slice ga ((kn evs t).length) gc), (23, .pointer (some ⟨b31, 0, none⟩)), (18, .pointer (some ⟨b20, 0, none⟩))] (row ga gc 3 1 ((kn evs t).length) ((kn evs t).flatMap eInt) :: blk b31 43 [.slice xa xs.length xc] :: row xa xc 70 2 xs.length (xs.flatMap eEvt) :: blk b20 3 [.int .i64 (t : Int)] :: blk b4 43 [.slice none 0 0] :: blk b5 3 [.int .i64 0] :: blk b6 4 [.bool false] :: blk b7 33 [.int .i64 0] :: bun (ds.map dblk) :: Y)
          refine Cd.block ?_
          refine Cd.draw rfl (by kernel_rfl) (.cons (.there .here) (.cons .p2 .nil)) ?_
          intro F32 St33 hP34 hF35 hR36
          refine Dr.q (i := 0) hP34 rfl (by kernel_rfl) (q_ldB isA_43 rfl .here rfl) ?_
          refine Dr.q (i := 1) hP34 rfl (by kernel_rfl) (q_ldB isA_3 rfl (.there .here) rfl) ?_
          refine Dr.q (i := 2) hP34 rfl (by kernel_rfl) (q_mv rfl) ?_
          refine Dr.e (i := 3) rfl (by kernel_rfl) ?_
          refine Ops.cl (α := Option Addr × Nat) (v := fun p => .slice p.1 (atL t (kn evs t)).length p.2) (B := fun p => [row p.1 p.2 70 2 (atL t (kn evs t)).length ((atL t (kn evs t)).flatMap eEvt)]) en_35 rfl (fun w hs => at_c2 t ga gc (kn evs t) w (hs.ownRo (.there .here)) (by omega)) ?_
          rintro ⟨pa, pq⟩
          refine Dr.back (fun _ hs => hF35 (.there .here) hs) ?_
          refine Dr.e (i := 4) rfl (by kernel_rfl) ?_
          refine Ops.app (news := ((atL t (kn evs t)).flatMap eEvt)) el_43 zsb_70 (by decide) rfl rfl (fun _ hs => hs.ownRo .here) (fun _ hs => (hs.pull .here).drop) (fun _ _ => .p2) (fm_length eEvt_len _) (fm_one eEvt_one _) (by rw [atL_len]; omega) (by rw [atL_len]; omega) ?_
          intro a37 c38
          refine Dr.back (fun _ hs => hF35 .here hs) ?_
          refine Dr.tail 5 (by kernel_rfl) ?_
          refine Ops.sat ?_ (fun _ hs => hR36 .here hs)
          refine Ops.stB [.slice a37 (xs.length + (atL t (kn evs t)).length) c38] [.slice a37 (xs.length + (atL t (kn evs t)).length) c38] sz_43 rfl rfl rfl (one rfl) .here rfl rfl ?_
          refine Ops.endQ (by with_reducible repeat (first | exact nq_end | apply nq_nq | apply xq_then | apply xq_block | apply nq_block)) (fun _ hs => ?_)
          have h1 := (((((((((hs.pull .p8).pull .p8).pull .p8).pull .p8).pull .p8).pull .p6).pull .p8).pull .p7).pull .p8).drop
          rw [← fm_app] at h1
          exact Sat.exI (B := fun y : Option Addr × Nat × List Evt => [blk b31 43 [.slice y.1 y.2.2.length y.2.1], row y.1 y.2.1 70 2 y.2.2.length (y.2.2.flatMap eEvt)]) (a37, c38, xs ++ atL t (kn evs t)) (by rw [List.length_append]; exact h1)
        · intro dm x
          refine Cd.pull (.there .here) ?_
          refine Cd.exE ?_
          rintro ⟨ya, yc, ys⟩
          refine Cd.sat (A' := [blk b31 43 [.slice ya ys.length yc], row ya yc 70 2 ys.length (ys.flatMap eEvt), dblk dm, blk b20 3 [.int .i64 (t : Int)], blk b4 43 [.slice none 0 0], blk b5 3 [.int .i64 0], blk b6 4 [.bool false], blk b7 33 [.int .i64 0], bun (ds.map dblk), blk c1 49 [.slice none 0 0, .slice ea evs.length ec, .int .i64 0], blk c2 3 [.int .i64 (t : Int)], blk c3 3 [.int .i64 0]]) ?_ (fun _ hs => hs)
          refine Cd.seq ?_
          refine Cd.draw rfl (by kernel_rfl) (.cons .here (.cons .p2 .nil)) ?_
          intro F39 St40 hP41 hF42 hR43
          refine Dr.q (i := 0) hP41 rfl (by kernel_rfl) (q_ldB isA_43 rfl .here rfl) ?_
          refine Dr.q (i := 1) hP41 rfl (by kernel_rfl) (q_ldB isA_3 rfl (.there .here) rfl) ?_
          refine Dr.e (i := 2) rfl (by kernel_rfl) ?_
          refine Ops.stB [.slice ya ys.length yc] [.slice ya ys.length yc] sz_43 rfl rfl rfl (one rfl) .p3 rfl rfl ?_
          refine Dr.back (fun _ hs => hF42 .here hs) ?_
          refine Dr.tail 3 (by kernel_rfl) ?_
          refine Ops.sat ?_ (fun _ hs => hR43 .here hs)
          refine Ops.stB [.int .i64 (t : Int)] [.int .i64 (t : Int)] sz_3 rfl rfl rfl (one rfl) .p5 rfl rfl ?_
          refine Ops.stB [.bool true] [.bool true] sz_4 rfl rfl rfl (one rfl) .p6 rfl rfl ?_
          refine Ops.stB [.int .i64 0] [.int .i64 0] sz_33 rfl rfl rfl (one rfl) .p7 rfl rfl ?_
          refine Ops.to rfl ?_
          refine Cd.rtMs (fn := Tryz.f10) [.slice ya ys.length yc, .int .i64 (t : Int), .bool true, .int .i64 0] (ds := dm :: ds) (A' := [blk b4 43 [.slice ya ys.length yc], blk b5 3 [.int .i64 (t : Int)], blk b6 4 [.bool true], blk b7 33 [.int .i64 0]]) (by with_reducible repeat (first | exact rqM_here | apply rq_then | apply rq_block)) rfl ⟨⟨_, _, rfl, fun _ hs => run_load1 isA_43 (Sat.atB .here rfl hs)⟩, ⟨_, _, rfl, fun _ hs => run_load1 isA_3 (Sat.atB (.there .here) rfl hs)⟩, ⟨_, _, rfl, fun _ hs => run_load1 isA_4 (Sat.atB .p2 rfl hs)⟩, ⟨_, _, rfl, fun _ hs => run_load1 isA_33 (Sat.atB .p3 rfl hs)⟩, trivial⟩ rfl (fun _ hs => (Sat.bunCons (((((((((((((hs.pull .p7).pull .p7).pull .p7).pull .p7).pull .p8).pull .p8).pull .p6).drop.pull .p6).drop.pull .p6).drop.pull .p6).drop.pull .p6).drop.pull .p6).drop)).unbundle) ?_
          intro w' hs'
          exact ⟨⟨_, _, _, .inl ⟨t, by omega, hF, hI4, rfl⟩⟩, hs'.none⟩
    · refine Ops.q (q_cmp rfl rfl (c_nlt (by omega))) ?_
      have hF0 : F t m = false := hI.2 (by omega)
      refine Ops.to rfl ?_
      refine Cd.seq ?_
      refine Cd.cond_f rfl ?_
      refine Cd.exitTo rfl ?_
      refine Cd.seq ?_
      refine Cd.region ?_
      refine Ops.mkmE ?_
      intro em
      refine Ops.alc [.map none] zc_92 ?_
      intro b44
      refine Ops.stB [.map (some em)] [.map (some em)] sz_92 rfl rfl rfl (one rfl) .here rfl rfl ?_
      refine Ops.to rfl ?_
      refine Cd.seq ?_
      refine Cd.region ?_
      refine Ops.alc [.slice none 0 0] zc_82 ?_
      intro b45
      refine Ops.to rfl ?_
      refine Cd.seq ?_
      refine Cd.seq ?_
      refine Cd.region ?_
      refine Ops.q (q_mv rfl) ?_
      refine Ops.q (q_len esz_82 rfl) ?_
      refine Ops.q (q_mv rfl) ?_
      refine Ops.to rfl ?_
      refine Cd.block ?_
      refine Cd.lpD (σ := Option {c : Nat × Nat × Nat × List Stt × List Cp.RQ × Nat × Nat × Option Addr × Nat × Nat // InvT ns ss F idl V (t + 1) c.2.2.2.1 c.2.2.2.2.1}) (fun _ => True) (fun s => [(4, .pointer (some ⟨b1, 0, none⟩)), (5, .pointer (some ⟨b2, 0, none⟩)), (6, .pointer (some ⟨b3, 0, none⟩)), (8, .pointer (some ⟨b4, 0, none⟩)), (9, .pointer (some ⟨b5, 0, none⟩)), (10, .pointer (some ⟨b6, 0, none⟩)), (11, .pointer (some ⟨b7, 0, none⟩)), (16, .pointer (some ⟨b17, 0, none⟩)), (17, .slice ra 1 rc), (69, .int .i64 (T : Int)), (70, .int .i64 (t : Int)), (18, .pointer (some ⟨b20, 0, none⟩)), (25, .pointer (some ⟨b44, 0, none⟩)), (26, .pointer (some ⟨b45, 0, none⟩)), (121, .slice ra 1 rc), (122, .int .i64 1), (123, .int .i64 (sN s))]) (sB ([bun (ds.map dblk), rd (NodeF nb S tb tc (d)), bun (simO S ma mc sa sc ns ip ss.length M (t) B BC sts q), row ma mc 62 8 ns.length (ns.flatMap ePrm), rd (wφ M E), row ra rc 79 1 1 [.pointer (some ⟨nb, 0, none⟩)], blk b1 40 [.slice na ns.length nc, .int .i64 ip, .slice sa ss.length sc], blk b2 49 [.slice none 0 0, .slice ea evs.length ec, .int .i64 0], blk b3 52 [.slice (some ⟨pb, po, none⟩) 1 pc], blk b4 43 [.slice none 0 0], blk b5 3 [.int .i64 0], blk b6 4 [.bool false], blk b7 33 [.int .i64 0], blk b17 3 [.int .i64 0], blk b20 3 [.int .i64 (t : Int)], blk b44 92 [.map (some em)], emap em, blk b45 82 [.slice none 0 0]]) (fun c => [bun ((c.1.2.2.2.2.2.2.2.2.2 :: ds).map dblk), rd (NodeF c.1.2.2.2.2.2.1 c.1.1 c.1.2.2.2.2.2.2.1 1 (d + 1)), bun (simO c.1.1 ma mc sa sc ns ip ss.length M (t + 1) c.1.2.1 c.1.2.2.1 c.1.2.2.2.1 c.1.2.2.2.2.1), row ma mc 62 8 ns.length (ns.flatMap ePrm), rd (wφ M E), row c.1.2.2.2.2.2.2.2.1 c.1.2.2.2.2.2.2.2.2.1 79 1 1 [.pointer (some ⟨c.1.2.2.2.2.2.1, 0, none⟩)], blk b1 40 [.slice na ns.length nc, .int .i64 ip, .slice sa ss.length sc], blk b2 49 [.slice none 0 0, .slice ea evs.length ec, .int .i64 0], blk b3 52 [.slice (some ⟨pb, po, none⟩) 1 pc], blk b4 43 [.slice none 0 0], blk b5 3 [.int .i64 0], blk b6 4 [.bool false], blk b7 33 [.int .i64 0], blk b17 3 [.int .i64 0], blk b20 3 [.int .i64 (t : Int)], blk b45 82 [.slice c.1.2.2.2.2.2.2.2.1 1 c.1.2.2.2.2.2.2.2.2.1]])) (fun s => (match s with | none => ds | some c => c.1.2.2.2.2.2.2.2.2.2 :: ds).map dmk) sO none trivial rfl ⟨rfl, rfl, rfl, rfl, rfl, rfl, rfl, rfl, rfl, rfl, rfl, rfl, rfl, rfl, rfl, rfl, rfl, trivial⟩ (fun _ hs => ((((((((((((((((((hs.pull .here).pull .p2).pull .p2).pull (.there .p16)).pull (.there .p16)).pull (.there .p16)).pull (.there .p16)).pull (.there .p16)).pull (.there .p16)).pull (.there .p16)).pull (.there .p16)).pull (.there .p16)).pull (.there .p16)).pull (.there .p16)).pull (.there .p16)).pull (.there .p16)).pull (.there .p16)).pull (.there .p16))) ?_
      rintro (_ | ⟨⟨S2, B2, BC2, sts2, q2, nb2, tb2, ra2, rc2, dm⟩, hc2⟩) hI
      · change Cd _ _ _ _ _ _ (ds.map dmk) [(4, .pointer (some ⟨b1, 0, none⟩)), (5, .pointer (some ⟨b2, 0, none⟩)), (6, .pointer (some ⟨b3, 0, none⟩)), (8, .pointer (some ⟨b4, 0, none⟩)), (9, .pointer (some ⟨b5, 0, none⟩)), (10, .pointer (some ⟨b6, 0, none⟩)), (11, .pointer (some ⟨b7, 0, none⟩)), (16, .pointer (some ⟨b17, 0, none⟩)), (17, .slice ra 1 rc), (69, .int .i64 (T : Int)), (70, .int .i64 (t : Int)), (18, .pointer (some ⟨b20, 0, none⟩)), (25, .pointer (some ⟨b44, 0, none⟩)), (26, .pointer (some ⟨b45, 0, none⟩)), (121, .slice ra 1 rc), (122, .int .i64 1), (123, .int .i64 0)] ([bun (ds.map dblk), rd (NodeF nb S tb tc (d)), bun (simO S ma mc sa sc ns ip ss.length M (t) B BC sts q), row ma mc 62 8 ns.length (ns.flatMap ePrm), rd (wφ M E), row ra rc 79 1 1 [.pointer (some ⟨nb, 0, none⟩)], blk b1 40 [.slice na ns.length nc, .int .i64 ip, .slice sa ss.length sc], blk b2 49 [.slice none 0 0, .slice ea evs.length ec, .int .i64 0], blk b3 52 [.slice (some ⟨pb, po, none⟩) 1 pc], blk b4 43 [.slice none 0 0], blk b5 3 [.int .i64 0], blk b6 4 [.bool false], blk b7 33 [.int .i64 0], blk b17 3 [.int .i64 0], blk b20 3 [.int .i64 (t : Int)], blk b44 92 [.map (some em)], emap em, blk b45 82 [.slice none 0 0]])
        refine Cd.seq ?_
        refine Cd.region ?_
        refine Ops.q (q_cmp rfl rfl (c_lt (by decide))) ?_
        refine Ops.to rfl ?_
        refine Cd.seq ?_
        refine Cd.cond_t rfl ?_
        refine Cd.skipTo rfl ?_
        refine Cd.seq ?_
        refine Cd.block ?_
        refine Cd.seq ?_
        refine Cd.region ?_
        refine Ops.rowpos .p5 (by decide) ?_
        rintro rb rfl
        refine Ops.q (q_ix (k := 0) esz_82 rfl rfl (by omega)) ?_
        refine Ops.q (q_ldO isA_79 rfl .p5 rfl) ?_
        refine Ops.alc [.pointer none] zc_79 ?_
        intro b46
        refine Ops.stB [.pointer (some ⟨nb, 0, none⟩)] [.pointer (some ⟨nb, 0, none⟩)] sz_79 rfl rfl rfl (one rfl) .here rfl rfl ?_
        refine Ops.to rfl ?_
        refine Cd.seq ?_
        refine Cd.draw rfl (by kernel_rfl) (.cons .here (.cons .p7 (.cons .p13 (.cons (.there .here) .nil)))) ?_
        intro F47 St48 hP49 hF50 hR51
        refine Dr.q (i := 0) hP49 rfl (by kernel_rfl) (q_ldBN [.slice none 0 0, .slice ea evs.length ec, .int .i64 0] isA_49 sz_49 rfl (.there .here) rfl) ?_
        refine Dr.q (i := 1) hP49 rfl (by kernel_rfl) (q_ldB isA_3 rfl .p2 rfl) ?_
        refine Dr.q (i := 2) hP49 rfl (by kernel_rfl) (q_ldB isA_79 rfl .here rfl) ?_
        refine Dr.q (i := 3) hP49 rfl (by kernel_rfl) (q_nck rfl) ?_
        refine Dr.q (i := 4) hP49 rfl (by kernel_rfl) (q_fa fo_81_1 rfl) ?_
        refine Dr.q (i := 5) hP49 rfl (by kernel_rfl) (q_ld (v := .int .i64 0) isA_3 rfl (fun w hs => by obtain ⟨_, ⟨_, _, h9⟩, _⟩ := hs.read .p3; exact Ro.at h9 (j := 1) rfl)) ?_
        refine Dr.e (i := 6) rfl (by kernel_rfl) ?_
        refine Ops.cl (α := Nat × Nat × Nat) (v := fun x => .func (.func 71) #[] #[.pointer (some ⟨x.1, 0, none⟩), .pointer (some ⟨x.2.1, 0, none⟩), .pointer (some ⟨x.2.2, 0, none⟩)]) (B := fun x => [blk x.1 49 [.slice none 0 0, .slice ea evs.length ec, .int .i64 0], blk x.2.1 3 [.int .i64 (t : Int)], blk x.2.2 3 [.int .i64 0]]) en_34 rfl (fun w hs => choices_c ea ec evs t w) ?_
        rintro ⟨c1, c2, c3⟩
        refine Dr.back (fun _ hs => hF50 .p3 hs) ?_
        refine Dr.tail 7 (by kernel_rfl) ?_
        refine Ops.sat ?_ (fun _ hs => hR51 .p3 hs)
        refine Ops.to rfl ?_
        refine Cd.block ?_
        refine Cd.range1 (k := 71) (caps := [.pointer (some ⟨c1, 0, none⟩), .pointer (some ⟨c2, 0, none⟩), .pointer (some ⟨c3, 0, none⟩)]) (enc := fun x : Option Addr × Nat => [.slice x.1 (kn evs t).length x.2, .int .i64 0]) (BX := fun x : Option Addr × Nat => row x.1 x.2 3 1 ((kn evs t).length) ((kn evs t).flatMap eInt)) (X := [blk c1 49 [.slice none 0 0, .slice ea evs.length ec, .int .i64 0], blk c2 3 [.int .i64 (t : Int)], blk c3 3 [.int .i64 0]]) (β := Unit) ([bun (simO S ma mc sa sc ns ip ss.length M (t) B BC sts q), rd (NodeF nb S tb tc (d)), blk b44 92 [.map (some em)], emap em, blk b45 82 [.slice none 0 0], blk b46 79 [.pointer (some ⟨nb, 0, none⟩)], row ma mc 62 8 ns.length (ns.flatMap ePrm), rd (wφ M E), bun (ds.map dblk), blk b1 40 [.slice na ns.length nc, .int .i64 ip, .slice sa ss.length sc], blk b2 49 [.slice none 0 0, .slice ea evs.length ec, .int .i64 0], blk b3 52 [.slice (some ⟨pb, po, none⟩) 1 pc], blk b4 43 [.slice none 0 0], blk b5 3 [.int .i64 0], blk b6 4 [.bool false], blk b7 33 [.int .i64 0], blk b17 3 [.int .i64 0], blk b20 3 [.int .i64 (t : Int)]]) (fun _ => [exB (fun y : {y : Nat × Nat × Nat × List Stt × List Cp.RQ × Nat × Nat × Option Addr × Nat // InvT ns ss F idl V (t + 1) y.2.2.2.1 y.2.2.2.2.1} => [rd (NodeF y.1.2.2.2.2.2.1 y.1.1 y.1.2.2.2.2.2.2.1 1 (d + 1)), bun (simO y.1.1 ma mc sa sc ns ip ss.length M (t + 1) y.1.2.1 y.1.2.2.1 y.1.2.2.2.1 y.1.2.2.2.2.1), row y.1.2.2.2.2.2.2.2.1 y.1.2.2.2.2.2.2.2.2 79 1 1 [.pointer (some ⟨y.1.2.2.2.2.2.1, 0, none⟩)], blk b45 82 [.slice y.1.2.2.2.2.2.2.2.1 1 y.1.2.2.2.2.2.2.2.2]]), row ma mc 62 8 ns.length (ns.flatMap ePrm), rd (wφ M E), bun (ds.map dblk), blk b1 40 [.slice na ns.length nc, .int .i64 ip, .slice sa ss.length sc], blk b2 49 [.slice none 0 0, .slice ea evs.length ec, .int .i64 0], blk b3 52 [.slice (some ⟨pb, po, none⟩) 1 pc], blk b4 43 [.slice none 0 0], blk b5 3 [.int .i64 0], blk b6 4 [.bool false], blk b7 33 [.int .i64 0], blk b17 3 [.int .i64 0], blk b20 3 [.int .i64 (t : Int)]]) (fun x _ => [(29, .slice x.1 ((kn evs t).length) x.2), (30, .int .i64 0), (4, .pointer (some ⟨b1, 0, none⟩)), (5, .pointer (some ⟨b2, 0, none⟩)), (6, .pointer (some ⟨b3, 0, none⟩)), (16, .pointer (some ⟨b17, 0, none⟩)), (18, .pointer (some ⟨b20, 0, none⟩)), (25, .pointer (some ⟨b44, 0, none⟩)), (26, .pointer (some ⟨b45, 0, none⟩)), (28, .pointer (some ⟨b46, 0, none⟩))]) (fun x _ => [row x.1 x.2 3 1 ((kn evs t).length) ((kn evs t).flatMap eInt), bun (simO S ma mc sa sc ns ip ss.length M (t) B BC sts q), rd (NodeF nb S tb tc (d)), blk b44 92 [.map (some em)], emap em, blk b45 82 [.slice none 0 0], blk b46 79 [.pointer (some ⟨nb, 0, none⟩)], row ma mc 62 8 ns.length (ns.flatMap ePrm), rd (wφ M E), bun (ds.map dblk), blk b1 40 [.slice na ns.length nc, .int .i64 ip, .slice sa ss.length sc], blk b2 49 [.slice none 0 0, .slice ea evs.length ec, .int .i64 0], blk b3 52 [.slice (some ⟨pb, po, none⟩) 1 pc], blk b4 43 [.slice none 0 0], blk b5 3 [.int .i64 0], blk b6 4 [.bool false], blk b7 33 [.int .i64 0], blk b17 3 [.int .i64 0], blk b20 3 [.int .i64 (t : Int)]]) (choices_it c1 c2 c3 ea ec evs t w0 hE hel hka.1 hka.2.1) en_71 rfl (fun _ hs => ((((((((((((((((((((((hs.pull .p6).pull .p6).pull .p6).pull .p5).pull (.there (.there .p16))).pull (.there (.there .p16))).pull (.there (.there .p16))).pull (.there (.there .p16))).pull (.there (.there .p16))).pull (.there (.there .p16))).pull .p11).pull (.there (.there .p16))).pull .p14).pull (.there .p16)).pull (.there .p16)).pull .p15).pull (.there (.there (.there (.there (.there .p16)))))).pull (.there (.there (.there (.there (.there .p16)))))).pull (.there (.there (.there (.there (.there .p16)))))).pull (.there (.there (.there .p16)))).pull (.there (.there (.there (.there .p16))))).pull (.there (.there (.there (.there (.there .p16)))))).drop) rfl (fun _ => rfl) ?_ ?_ rfl ?_
        · intro l Y x
          refine Cd.seq ?_
          refine Cd.region ?_
          refine Ops.q (q_asg rfl) ?_
          refine Ops.to rfl ?_
          refine Cd.region ?_
          refine Ops.q (q_asg rfl) ?_
          exact Ops.mid () ⟨rfl, rfl, rfl, rfl, rfl, rfl, rfl, rfl, rfl, rfl, trivial⟩ (fun _ hs => hs)
        · rintro l Y ⟨ga, gc⟩ b
          change Cd _ _ _ _ _ _ _ [(29, .slice ga ((kn evs t).length) gc), (30, .int .i64 0), (4, .pointer (some ⟨b1, 0, none⟩)), (5, .pointer (some ⟨b2, 0, none⟩)), (6, .pointer (some ⟨b3, 0, none⟩)), (16, .pointer (some ⟨b17, 0, none⟩)), (18, .pointer (some ⟨b20, 0, none⟩)), (25, .pointer (some ⟨b44, 0, none⟩)), (26, .pointer (some ⟨b45, 0, none⟩)), (28, .pointer (some ⟨b46, 0, none⟩))] (row ga gc 3 1 ((kn evs t).length) ((kn evs t).flatMap eInt) :: bun (simO S ma mc sa sc ns ip ss.length M (t) B BC sts q) :: rd (NodeF nb S tb tc (d)) :: blk b44 92 [.map (some em)] :: emap em :: blk b45 82 [.slice none 0 0] :: blk b46 79 [.pointer (some ⟨nb, 0, none⟩)] :: row ma mc 62 8 ns.length (ns.flatMap ePrm) :: rd (wφ M E) :: bun (ds.map dblk) :: blk b1 40 [.slice na ns.length nc, .int .i64 ip, .slice sa ss.length sc] :: blk b2 49 [.slice none 0 0, .slice ea evs.length ec, .int .i64 0] :: blk b3 52 [.slice (some ⟨pb, po, none⟩) 1 pc] :: blk b4 43 [.slice none 0 0] :: blk b5 3 [.int .i64 0] :: blk b6 4 [.bool false] :: blk b7 33 [.int .i64 0] :: blk b17 3 [.int .i64 0] :: blk b20 3 [.int .i64 (t : Int)] :: Y)
          refine Cd.block ?_
          refine Cd.cutE (β := CopyS ns ss F idl V t sts × Nat × Nat × Option Addr × Nat) (fun bb => [(4, .pointer (some ⟨b1, 0, none⟩)), (5, .pointer (some ⟨b2, 0, none⟩)), (6, .pointer (some ⟨b3, 0, none⟩)), (16, .pointer (some ⟨b17, 0, none⟩)), (18, .pointer (some ⟨b20, 0, none⟩)), (25, .pointer (some ⟨b44, 0, none⟩)), (26, .pointer (some ⟨b45, 0, none⟩)), (28, .pointer (some ⟨b46, 0, none⟩)), (29, .slice ga ((kn evs t).length) gc), (31, .pointer (some ⟨bb.2.1, 0, none⟩))]) (fun bb => bun (simO bb.1.1.1 ma mc sa sc ns ip ss.length M (t) bb.1.1.2.1 bb.1.1.2.2.1 sts bb.1.1.2.2.2) :: blk bb.2.1 81 [.pointer (some ⟨bb.1.1.1, 0, none⟩), .int .i64 0, .slice (some ⟨bb.2.2.1, 0, none⟩) 1 1, .pointer (some ⟨nb, 0, none⟩), .slice bb.2.2.2.1 ((atL t (kn evs t)).length) bb.2.2.2.2] :: row (some ⟨bb.2.2.1, 0, none⟩) 1 4 1 1 (rep 1 [.bool false]) :: row bb.2.2.2.1 bb.2.2.2.2 70 2 ((atL t (kn evs t)).length) ((atL t (kn evs t)).flatMap eEvt) :: row ga gc 3 1 ((kn evs t).length) ((kn evs t).flatMap eInt) :: rd (NodeF nb S tb tc (d)) :: blk b44 92 [.map (some em)] :: emap em :: blk b45 82 [.slice none 0 0] :: blk b46 79 [.pointer (some ⟨nb, 0, none⟩)] :: row ma mc 62 8 ns.length (ns.flatMap ePrm) :: rd (wφ M E) :: bun (ds.map dblk) :: blk b1 40 [.slice na ns.length nc, .int .i64 ip, .slice sa ss.length sc] :: blk b2 49 [.slice none 0 0, .slice ea evs.length ec, .int .i64 0] :: blk b3 52 [.slice (some ⟨pb, po, none⟩) 1 pc] :: blk b4 43 [.slice none 0 0] :: blk b5 3 [.int .i64 0] :: blk b6 4 [.bool false] :: blk b7 33 [.int .i64 0] :: blk b17 3 [.int .i64 0] :: blk b20 3 [.int .i64 (t : Int)] :: Y) ?_ ?_
          · refine Cd.draw rfl (by kernel_rfl) (.cons .p6 (.cons .p11 (.cons .p16 (.cons .p2 .nil)))) ?_
            intro F52 St53 hP54 hF55 hR56
            refine Dr.q (i := 0) hP54 rfl (by kernel_rfl) (q_ldB isA_79 rfl .here rfl) ?_
            refine Dr.q (i := 1) hP54 rfl (by kernel_rfl) (q_nck rfl) ?_
            refine Dr.q (i := 2) hP54 rfl (by kernel_rfl) (q_fa fo_81_0 rfl) ?_
            refine Dr.q (i := 3) hP54 rfl (by kernel_rfl) (q_ld (v := .pointer (some ⟨S, 0, none⟩)) isA_76 rfl (fun w hs => by obtain ⟨_, ⟨_, _, h9⟩, _⟩ := hs.read .p3; exact Ro.at h9 (j := 0) rfl)) ?_
            refine Dr.q (i := 5) hP54 rfl (by kernel_rfl) (q_ldB isA_79 rfl .here rfl) ?_
            refine Dr.q (i := 6) hP54 rfl (by kernel_rfl) (q_nck rfl) ?_
            refine Dr.q (i := 7) hP54 rfl (by kernel_rfl) (q_fa fo_81_1 rfl) ?_
            refine Dr.q (i := 8) hP54 rfl (by kernel_rfl) (q_ld (v := .int .i64 0) isA_3 rfl (fun w hs => by obtain ⟨_, ⟨_, _, h9⟩, _⟩ := hs.read .p3; exact Ro.at h9 (j := 1) rfl)) ?_
            refine Dr.q (i := 9) hP54 rfl (by kernel_rfl) (q_mv rfl) ?_
            refine Dr.q (i := 10) hP54 rfl (by kernel_rfl) (q_ar (v := 0) rfl rfl (a_sub (by decide))) ?_
            refine Dr.q (i := 11) hP54 rfl (by kernel_rfl) (q_ldB isA_52 rfl (.there .here) rfl) ?_
            refine Dr.q (i := 12) hP54 rfl (by kernel_rfl) (q_len esz_52 rfl) ?_
            refine Dr.q (i := 14) hP54 rfl (by kernel_rfl) (q_ldB isA_79 rfl .here rfl) ?_
            refine Dr.q (i := 15) hP54 rfl (by kernel_rfl) (q_ldB isA_3 rfl .p2 rfl) ?_
            refine Dr.q (i := 16) hP54 rfl (by kernel_rfl) (q_mv rfl) ?_
            refine Dr.e2 (i := 4) (j := 13) rfl rfl (by kernel_rfl) ?_ ?_
            · refine Ops.cm (α := CopyS ns ss F idl V t sts) (v := fun x => .pointer (some ⟨x.1.1, 0, none⟩)) (A' := fun x => bun (simO x.1.1 ma mc sa sc ns ip ss.length M (t) x.1.2.1 x.1.2.2.1 sts x.1.2.2.2) :: bun (simO S ma mc sa sc ns ip ss.length M (t) B BC sts q) :: row ma mc 62 8 ns.length (ns.flatMap ePrm) :: rd (wφ M E) :: F52 :: row ga gc 3 1 ((kn evs t).length) ((kn evs t).flatMap eInt) :: blk b44 92 [.map (some em)] :: emap em :: blk b45 82 [.slice none 0 0] :: bun (ds.map dblk) :: blk b1 40 [.slice na ns.length nc, .int .i64 ip, .slice sa ss.length sc] :: blk b2 49 [.slice none 0 0, .slice ea evs.length ec, .int .i64 0] :: blk b4 43 [.slice none 0 0] :: blk b5 3 [.int .i64 0] :: blk b6 4 [.bool false] :: blk b7 33 [.int .i64 0] :: blk b17 3 [.int .i64 0] :: Y) en_30 rfl (fun w hs => copyI hR hI3 (((((((((((((((((hs.pull .p15).pull .p15).pull .p15).pull .p15).pull .p15).pull .p15).pull .p15).pull .p15).pull .p13).pull .p13).pull .p13).pull .p12).pull .p12).pull .p15).pull .p15).pull .p15))) ?_
              rintro ⟨⟨S1, B1, BC1, q1⟩, hc1⟩
              dsimp only at hc1
              refine Dr.back (fun _ hs => hF55 .p4 hs) ?_
              refine Dr.e2 (i := 13) (j := 17) rfl rfl (by kernel_rfl) ?_ ?_
              · refine Ops.mks (m := 1) el_27 zsb_4 rfl rfl (by omega) (by omega) ?_
                intro b57
                refine Dr.back (fun _ hs => hF55 .p5 hs) ?_
                refine Dr.e (i := 17) rfl (by kernel_rfl) ?_
                refine Ops.cl (α := Option Addr × Nat) (v := fun p => .slice p.1 (atL t (kn evs t)).length p.2) (B := fun p => [row p.1 p.2 70 2 (atL t (kn evs t)).length ((atL t (kn evs t)).flatMap eEvt)]) en_35 rfl (fun w hs => at_c2 t ga gc (kn evs t) w (hs.ownRo .p6) (by omega)) ?_
                rintro ⟨pa, pq⟩
                refine Dr.back (fun _ hs => hF55 .p6 hs) ?_
                refine Dr.q (i := 18) hP54 rfl (by kernel_rfl) (q_bld [.pointer (some ⟨S1, 0, none⟩), .int .i64 0, .slice (some ⟨b57, 0, none⟩) 1 1, .pointer (some ⟨nb, 0, none⟩), .slice pa ((atL t (kn evs t)).length) pq] pls_81 zc_81 rfl rfl) ?_
                refine Dr.e (i := 19) rfl (by kernel_rfl) ?_
                refine Ops.box [.pointer (some ⟨S1, 0, none⟩), .int .i64 0, .slice (some ⟨b57, 0, none⟩) 1 1, .pointer (some ⟨nb, 0, none⟩), .slice pa ((atL t (kn evs t)).length) pq] rfl rfl ?_
                intro b58
                refine Dr.back (fun _ hs => hF55 .p7 hs) ?_
                refine Dr.tail 20 (by kernel_rfl) ?_
                refine Ops.sat ?_ (fun _ hs => hR56 .p7 hs)
                refine Ops.q (q_asg rfl) ?_
                exact Ops.cutEndE (⟨(S1, B1, BC1, q1), hc1⟩, b58, b57, pa, pq) rfl ⟨rfl, rfl, rfl, rfl, rfl, rfl, rfl, rfl, rfl, rfl, trivial⟩ (fun _ hs => (((((((((((((((((((((((hs.pull .p2).pull (.there (.there (.there (.there (.there (.there .p16))))))).pull (.there (.there (.there (.there (.there (.there .p16))))))).pull (.there (.there (.there (.there (.there (.there .p16))))))).pull (.there (.there (.there (.there (.there (.there .p16))))))).pull (.there (.there (.there (.there (.there (.there .p16))))))).pull .p7).pull (.there (.there (.there (.there (.there (.there .p16))))))).pull (.there (.there (.there (.there (.there (.there .p16))))))).pull (.there (.there (.there (.there (.there (.there .p16))))))).pull (.there (.there .p16))).pull (.there (.there .p16))).pull .p12).pull (.there (.there (.there (.there (.there (.there .p16))))))).pull (.there (.there (.there (.there (.there (.there .p16))))))).pull (.there (.there (.there (.there (.there (.there .p16))))))).pull .p16).pull (.there (.there (.there (.there (.there (.there .p16))))))).pull (.there (.there (.there .p16)))).pull (.there (.there (.there (.there .p16))))).pull (.there (.there (.there (.there .p16))))).pull (.there (.there (.there (.there (.there .p16)))))).pull (.there (.there (.there (.there (.there (.there .p16))))))).drop)
              · refine Ops.cl (α := Option Addr × Nat) (v := fun p => .slice p.1 (atL t (kn evs t)).length p.2) (B := fun p => [row p.1 p.2 70 2 (atL t (kn evs t)).length ((atL t (kn evs t)).flatMap eEvt)]) en_35 rfl (fun w hs => at_c2 t ga gc (kn evs t) w (hs.ownRo .p5) (by omega)) ?_
                rintro ⟨pa, pq⟩
                refine Dr.back (fun _ hs => hF55 .p5 hs) ?_
                refine Dr.e (i := 13) rfl (by kernel_rfl) ?_
                refine Ops.mks (m := 1) el_27 zsb_4 rfl rfl (by omega) (by omega) ?_
                intro b59
                refine Dr.back (fun _ hs => hF55 .p6 hs) ?_
                refine Dr.q (i := 18) hP54 rfl (by kernel_rfl) (q_bld [.pointer (some ⟨S1, 0, none⟩), .int .i64 0, .slice (some ⟨b59, 0, none⟩) 1 1, .pointer (some ⟨nb, 0, none⟩), .slice pa ((atL t (kn evs t)).length) pq] pls_81 zc_81 rfl rfl) ?_
                refine Dr.e (i := 19) rfl (by kernel_rfl) ?_
                refine Ops.box [.pointer (some ⟨S1, 0, none⟩), .int .i64 0, .slice (some ⟨b59, 0, none⟩) 1 1, .pointer (some ⟨nb, 0, none⟩), .slice pa ((atL t (kn evs t)).length) pq] rfl rfl ?_
                intro b60
                refine Dr.back (fun _ hs => hF55 .p7 hs) ?_
                refine Dr.tail 20 (by kernel_rfl) ?_
                refine Ops.sat ?_ (fun _ hs => hR56 .p7 hs)
                refine Ops.q (q_asg rfl) ?_
                exact Ops.cutEndE (⟨(S1, B1, BC1, q1), hc1⟩, b60, b59, pa, pq) rfl ⟨rfl, rfl, rfl, rfl, rfl, rfl, rfl, rfl, rfl, rfl, trivial⟩ (fun _ hs => (((((((((((((((((((((((hs.pull .p2).pull (.there (.there (.there (.there (.there (.there .p16))))))).pull (.there (.there (.there (.there (.there (.there .p16))))))).pull (.there (.there (.there (.there (.there (.there .p16))))))).pull (.there (.there (.there (.there (.there (.there .p16))))))).pull (.there (.there (.there (.there (.there (.there .p16))))))).pull .p7).pull (.there (.there (.there (.there (.there (.there .p16))))))).pull (.there (.there (.there (.there (.there (.there .p16))))))).pull (.there (.there (.there (.there (.there (.there .p16))))))).pull (.there (.there .p16))).pull (.there (.there .p16))).pull .p12).pull (.there (.there (.there (.there (.there (.there .p16))))))).pull (.there (.there (.there (.there (.there (.there .p16))))))).pull (.there (.there (.there (.there (.there (.there .p16))))))).pull .p16).pull (.there (.there (.there (.there (.there (.there .p16))))))).pull (.there (.there (.there (.there .p16))))).pull (.there (.there (.there (.there .p16))))).pull (.there (.there (.there (.there .p16))))).pull (.there (.there (.there (.there (.there .p16)))))).pull (.there (.there (.there (.there (.there (.there .p16))))))).drop)
            · refine Ops.mks (m := 1) el_27 zsb_4 rfl rfl (by omega) (by omega) ?_
              intro b61
              refine Dr.back (fun _ hs => hF55 (.there .here) hs) ?_
              refine Dr.e (i := 4) rfl (by kernel_rfl) ?_
              refine Ops.cm (α := CopyS ns ss F idl V t sts) (v := fun x => .pointer (some ⟨x.1.1, 0, none⟩)) (A' := fun x => bun (simO x.1.1 ma mc sa sc ns ip ss.length M (t) x.1.2.1 x.1.2.2.1 sts x.1.2.2.2) :: bun (simO S ma mc sa sc ns ip ss.length M (t) B BC sts q) :: row ma mc 62 8 ns.length (ns.flatMap ePrm) :: rd (wφ M E) :: row (some ⟨b61, 0, none⟩) 1 4 1 1 (rep 1 [.bool false]) :: F52 :: row ga gc 3 1 ((kn evs t).length) ((kn evs t).flatMap eInt) :: blk b44 92 [.map (some em)] :: emap em :: blk b45 82 [.slice none 0 0] :: bun (ds.map dblk) :: blk b1 40 [.slice na ns.length nc, .int .i64 ip, .slice sa ss.length sc] :: blk b2 49 [.slice none 0 0, .slice ea evs.length ec, .int .i64 0] :: blk b4 43 [.slice none 0 0] :: blk b5 3 [.int .i64 0] :: blk b6 4 [.bool false] :: blk b7 33 [.int .i64 0] :: blk b17 3 [.int .i64 0] :: Y) en_30 rfl (fun w hs => copyI hR hI3 ((((((((((((((((((hs.pull .p16).pull .p16).pull .p16).pull .p16).pull .p16).pull .p16).pull .p16).pull .p16).pull .p14).pull .p14).pull .p14).pull .p13).pull .p13).pull .p13).pull .p16).pull .p16).pull .p16))) ?_
              rintro ⟨⟨S1, B1, BC1, q1⟩, hc1⟩
              dsimp only at hc1
              refine Dr.back (fun _ hs => hF55 .p5 hs) ?_
              refine Dr.e (i := 17) rfl (by kernel_rfl) ?_
              refine Ops.cl (α := Option Addr × Nat) (v := fun p => .slice p.1 (atL t (kn evs t)).length p.2) (B := fun p => [row p.1 p.2 70 2 (atL t (kn evs t)).length ((atL t (kn evs t)).flatMap eEvt)]) en_35 rfl (fun w hs => at_c2 t ga gc (kn evs t) w (hs.ownRo .p6) (by omega)) ?_
              rintro ⟨pa, pq⟩
              refine Dr.back (fun _ hs => hF55 .p6 hs) ?_
              refine Dr.q (i := 18) hP54 rfl (by kernel_rfl) (q_bld [.pointer (some ⟨S1, 0, none⟩), .int .i64 0, .slice (some ⟨b61, 0, none⟩) 1 1, .pointer (some ⟨nb, 0, none⟩), .slice pa ((atL t (kn evs t)).length) pq] pls_81 zc_81 rfl rfl) ?_
              refine Dr.e (i := 19) rfl (by kernel_rfl) ?_
              refine Ops.box [.pointer (some ⟨S1, 0, none⟩), .int .i64 0, .slice (some ⟨b61, 0, none⟩) 1 1, .pointer (some ⟨nb, 0, none⟩), .slice pa ((atL t (kn evs t)).length) pq] rfl rfl ?_
              intro b62
              refine Dr.back (fun _ hs => hF55 .p7 hs) ?_
              refine Dr.tail 20 (by kernel_rfl) ?_
              refine Ops.sat ?_ (fun _ hs => hR56 .p7 hs)
              refine Ops.q (q_asg rfl) ?_
              exact Ops.cutEndE (⟨(S1, B1, BC1, q1), hc1⟩, b62, b61, pa, pq) rfl ⟨rfl, rfl, rfl, rfl, rfl, rfl, rfl, rfl, rfl, rfl, trivial⟩ (fun _ hs => (((((((((((((((((((((((hs.pull .p2).pull (.there (.there (.there (.there (.there (.there .p16))))))).pull (.there (.there (.there (.there (.there (.there .p16))))))).pull (.there (.there (.there (.there (.there (.there .p16))))))).pull (.there (.there (.there (.there (.there (.there .p16))))))).pull (.there (.there (.there (.there (.there (.there .p16))))))).pull .p7).pull (.there (.there (.there (.there (.there (.there .p16))))))).pull (.there (.there (.there (.there (.there (.there .p16))))))).pull (.there (.there (.there (.there (.there (.there .p16))))))).pull (.there .p16)).pull (.there .p16)).pull .p12).pull (.there (.there (.there (.there (.there (.there .p16))))))).pull (.there (.there (.there (.there (.there (.there .p16))))))).pull (.there (.there (.there (.there (.there (.there .p16))))))).pull .p16).pull (.there (.there (.there (.there (.there (.there .p16))))))).pull (.there (.there (.there .p16)))).pull (.there (.there (.there (.there (.there (.there .p16))))))).pull (.there (.there (.there (.there .p16))))).pull (.there (.there (.there (.there (.there .p16)))))).pull (.there (.there (.there (.there (.there (.there .p16))))))).drop)
          · rintro ⟨⟨⟨S1, B1, BC1, q1⟩, hc1⟩, nb1, tb1, pa, pq⟩
            dsimp only at hc1
            change Cd _ _ _ _ _ _ _ [(4, .pointer (some ⟨b1, 0, none⟩)), (5, .pointer (some ⟨b2, 0, none⟩)), (6, .pointer (some ⟨b3, 0, none⟩)), (16, .pointer (some ⟨b17, 0, none⟩)), (18, .pointer (some ⟨b20, 0, none⟩)), (25, .pointer (some ⟨b44, 0, none⟩)), (26, .pointer (some ⟨b45, 0, none⟩)), (28, .pointer (some ⟨b46, 0, none⟩)), (29, .slice ga ((kn evs t).length) gc), (31, .pointer (some ⟨nb1, 0, none⟩))] (bun (simO S1 ma mc sa sc ns ip ss.length M (t) B1 BC1 sts q1) :: blk nb1 81 [.pointer (some ⟨S1, 0, none⟩), .int .i64 0, .slice (some ⟨tb1, 0, none⟩) 1 1, .pointer (some ⟨nb, 0, none⟩), .slice pa ((atL t (kn evs t)).length) pq] :: row (some ⟨tb1, 0, none⟩) 1 4 1 1 (rep 1 [.bool false]) :: row pa pq 70 2 ((atL t (kn evs t)).length) ((atL t (kn evs t)).flatMap eEvt) :: row ga gc 3 1 ((kn evs t).length) ((kn evs t).flatMap eInt) :: rd (NodeF nb S tb tc (d)) :: blk b44 92 [.map (some em)] :: emap em :: blk b45 82 [.slice none 0 0] :: blk b46 79 [.pointer (some ⟨nb, 0, none⟩)] :: row ma mc 62 8 ns.length (ns.flatMap ePrm) :: rd (wφ M E) :: bun (ds.map dblk) :: blk b1 40 [.slice na ns.length nc, .int .i64 ip, .slice sa ss.length sc] :: blk b2 49 [.slice none 0 0, .slice ea evs.length ec, .int .i64 0] :: blk b3 52 [.slice (some ⟨pb, po, none⟩) 1 pc] :: blk b4 43 [.slice none 0 0] :: blk b5 3 [.int .i64 0] :: blk b6 4 [.bool false] :: blk b7 33 [.int .i64 0] :: blk b17 3 [.int .i64 0] :: blk b20 3 [.int .i64 (t : Int)] :: Y)
            refine Cd.seq ?_
            refine Cd.region ?_
            refine Ops.q (q_mv rfl) ?_
            refine Ops.q (q_nck rfl) ?_
            refine Ops.q (q_fa fo_81_0 rfl) ?_
            refine Ops.q (q_ldB isA_76 rfl (.there .here) rfl) ?_
            refine Ops.q (q_mv rfl) ?_
            refine Ops.cm (α := {x : Option Addr × Nat × List Stt × List Cp.RQ // kn evs t = idl t → InvT ns ss F idl V (t + 1) x.2.2.1 x.2.2.2}) (v := fun x => .tuple [.slice x.1.1 (fl F ns.length t).length x.1.2.1, .int .i64 0].toArray) (A' := fun x => bun (simO S1 ma mc sa sc ns ip ss.length M (t + 1) B1 BC1 x.1.2.2.1 x.1.2.2.2) :: row ma mc 62 8 ns.length (ns.flatMap ePrm) :: rd (wφ M E) :: row x.1.1 x.1.2.1 3 1 ((fl F ns.length t).length) ((fl F ns.length t).flatMap eInt) :: blk nb1 81 [.pointer (some ⟨S1, 0, none⟩), .int .i64 0, .slice (some ⟨tb1, 0, none⟩) 1 1, .pointer (some ⟨nb, 0, none⟩), .slice pa ((atL t (kn evs t)).length) pq] :: row (some ⟨tb1, 0, none⟩) 1 4 1 1 (rep 1 [.bool false]) :: row pa pq 70 2 ((atL t (kn evs t)).length) ((atL t (kn evs t)).flatMap eEvt) :: rd (NodeF nb S tb tc (d)) :: blk b44 92 [.map (some em)] :: emap em :: blk b45 82 [.slice none 0 0] :: blk b46 79 [.pointer (some ⟨nb, 0, none⟩)] :: bun (ds.map dblk) :: blk b1 40 [.slice na ns.length nc, .int .i64 ip, .slice sa ss.length sc] :: blk b2 49 [.slice none 0 0, .slice ea evs.length ec, .int .i64 0] :: blk b3 52 [.slice (some ⟨pb, po, none⟩) 1 pc] :: blk b4 43 [.slice none 0 0] :: blk b5 3 [.int .i64 0] :: blk b6 4 [.bool false] :: blk b7 33 [.int .i64 0] :: blk b17 3 [.int .i64 0] :: blk b20 3 [.int .i64 (t : Int)] :: Y) en_31 rfl (fun w hs => stepI hR hc1 hW (by omega) (ids := kn evs t) hka.1 hka.2.2 (by omega) (((((((((((((((((((((((hs.pull (.there (.there (.there (.there (.there .p16)))))).pull (.there (.there (.there (.there (.there .p16)))))).pull (.there (.there (.there (.there (.there .p16)))))).pull (.there (.there (.there (.there (.there .p16)))))).pull (.there (.there (.there (.there (.there .p16)))))).pull (.there (.there (.there (.there (.there .p16)))))).pull (.there (.there (.there (.there (.there .p16)))))).pull (.there (.there (.there (.there (.there .p16)))))).pull (.there (.there (.there (.there (.there .p16)))))).pull (.there (.there (.there (.there (.there .p16)))))).pull (.there (.there (.there .p16)))).pull (.there (.there (.there .p16)))).pull (.there (.there (.there .p16)))).pull (.there (.there (.there .p16)))).pull (.there (.there (.there .p16)))).pull (.there (.there .p16))).pull (.there (.there .p16))).pull (.there (.there .p16))).pull (.there (.there (.there .p16)))).pull (.there (.there (.there (.there (.there .p16)))))).pull (.there (.there (.there (.there (.there .p16)))))).pull (.there (.there (.there (.there (.there .p16)))))))) ?_
            rintro ⟨⟨fa, fc, sts3, q3⟩, hc9⟩
            have hc3 := hc9 hkn
            dsimp only at hc3
            refine Ops.q (q_mv rfl) ?_
            refine Ops.q (q_ext rfl rfl) ?_
            refine Ops.q (q_ext rfl rfl) ?_
            refine Ops.q (q_asg rfl) ?_
            refine Ops.q (q_asg rfl) ?_
            refine Ops.to rfl ?_
            refine Cd.seq ?_
            refine Cd.region ?_
            refine Ops.q (q_mv rfl) ?_
            refine Ops.q (q_nck rfl) ?_
            refine Ops.q (q_fa fo_81_2 rfl) ?_
            refine Ops.q (q_ldB isA_27 rfl .p4 rfl) ?_
            refine Ops.q (q_ix (k := 0) esz_27 rfl rfl (by omega)) ?_
            refine Ops.stO [.bool true] [.bool true] sz_4 rfl rfl rfl (one rfl) .p5 (by decide) rfl ?_
            refine Ops.to rfl ?_
            refine Cd.seq ?_
            refine Cd.seq ?_
            refine Cd.region ?_
            refine Ops.q (q_ldB isA_3 rfl (.there (.there (.there (.there .p16)))) rfl) ?_
            refine Ops.q (q_mv rfl) ?_
            refine Ops.to rfl ?_
            refine Cd.block ?_
            refine Cd.lp (σ := Unit) (fun _ => True) (fun _ => [(4, .pointer (some ⟨b1, 0, none⟩)), (5, .pointer (some ⟨b2, 0, none⟩)), (6, .pointer (some ⟨b3, 0, none⟩)), (16, .pointer (some ⟨b17, 0, none⟩)), (18, .pointer (some ⟨b20, 0, none⟩)), (25, .pointer (some ⟨b44, 0, none⟩)), (26, .pointer (some ⟨b45, 0, none⟩)), (28, .pointer (some ⟨b46, 0, none⟩)), (29, .slice ga ((kn evs t).length) gc), (31, .pointer (some ⟨nb1, 0, none⟩)), (170, .int .i64 0), (171, .int .i64 0)]) (fun _ => bun (simO S1 ma mc sa sc ns ip ss.length M (t + 1) B1 BC1 sts3 q3) :: row ma mc 62 8 ns.length (ns.flatMap ePrm) :: rd (wφ M E) :: row fa fc 3 1 ((fl F ns.length t).length) ((fl F ns.length t).flatMap eInt) :: blk nb1 81 [.pointer (some ⟨S1, 0, none⟩), .int .i64 0, .slice (some ⟨tb1, 0, none⟩) 1 1, .pointer (some ⟨nb, 0, none⟩), .slice pa ((atL t (kn evs t)).length) pq] :: row (some ⟨tb1, 0, none⟩) 1 4 1 1 [.bool true] :: row pa pq 70 2 ((atL t (kn evs t)).length) ((atL t (kn evs t)).flatMap eEvt) :: rd (NodeF nb S tb tc (d)) :: blk b44 92 [.map (some em)] :: emap em :: blk b45 82 [.slice none 0 0] :: blk b46 79 [.pointer (some ⟨nb, 0, none⟩)] :: bun (ds.map dblk) :: blk b1 40 [.slice na ns.length nc, .int .i64 ip, .slice sa ss.length sc] :: blk b2 49 [.slice none 0 0, .slice ea evs.length ec, .int .i64 0] :: blk b3 52 [.slice (some ⟨pb, po, none⟩) 1 pc] :: blk b4 43 [.slice none 0 0] :: blk b5 3 [.int .i64 0] :: blk b6 4 [.bool false] :: blk b7 33 [.int .i64 0] :: blk b17 3 [.int .i64 0] :: blk b20 3 [.int .i64 (t : Int)] :: Y) (fun _ => 0) () trivial ⟨rfl, rfl, rfl, rfl, rfl, rfl, rfl, rfl, rfl, rfl, rfl, rfl, trivial⟩ (fun _ hs => hs) ?_
            intro s hI
            refine Cd.seq ?_
            refine Cd.region ?_
            refine Ops.q (q_cmp rfl rfl (c_nlt (by decide))) ?_
            refine Ops.to rfl ?_
            refine Cd.seq ?_
            refine Cd.cond_f rfl ?_
            refine Cd.exitTo rfl ?_
            refine Cd.seq ?_
            refine Cd.seq ?_
            refine Cd.region ?_
            refine Ops.q (q_mv rfl) ?_
            refine Ops.cm (α := ByteArray) (v := fun s => .string s) (A' := fun _ => bun (simO S1 ma mc sa sc ns ip ss.length M (t + 1) B1 BC1 sts3 q3) :: row ma mc 62 8 ns.length (ns.flatMap ePrm) :: rd (wφ M E) :: row fa fc 3 1 ((fl F ns.length t).length) ((fl F ns.length t).flatMap eInt) :: blk nb1 81 [.pointer (some ⟨S1, 0, none⟩), .int .i64 0, .slice (some ⟨tb1, 0, none⟩) 1 1, .pointer (some ⟨nb, 0, none⟩), .slice pa ((atL t (kn evs t)).length) pq] :: row (some ⟨tb1, 0, none⟩) 1 4 1 1 [.bool true] :: row pa pq 70 2 ((atL t (kn evs t)).length) ((atL t (kn evs t)).flatMap eEvt) :: rd (NodeF nb S tb tc (d)) :: blk b44 92 [.map (some em)] :: emap em :: blk b45 82 [.slice none 0 0] :: blk b46 79 [.pointer (some ⟨nb, 0, none⟩)] :: bun (ds.map dblk) :: blk b1 40 [.slice na ns.length nc, .int .i64 ip, .slice sa ss.length sc] :: blk b2 49 [.slice none 0 0, .slice ea evs.length ec, .int .i64 0] :: blk b3 52 [.slice (some ⟨pb, po, none⟩) 1 pc] :: blk b4 43 [.slice none 0 0] :: blk b5 3 [.int .i64 0] :: blk b6 4 [.bool false] :: blk b7 33 [.int .i64 0] :: blk b17 3 [.int .i64 0] :: blk b20 3 [.int .i64 (t : Int)] :: Y) en_36 rfl (fun w hs => keyI hR hc3 (by omega) nb1 tb1 1 _ _ (fun w hs => Ro.ofB hs (.there .here)) (fun w hs => hs.ownRo .p2) (((((((((((((((((((((((hs.pull (.there (.there (.there (.there (.there .p16)))))).pull (.there (.there (.there (.there (.there .p16)))))).pull (.there (.there (.there (.there (.there .p16)))))).pull (.there (.there (.there (.there (.there .p16)))))).pull (.there (.there (.there (.there (.there .p16)))))).pull (.there (.there (.there (.there (.there .p16)))))).pull (.there (.there (.there (.there (.there .p16)))))).pull (.there (.there (.there (.there (.there .p16)))))).pull (.there (.there (.there (.there (.there .p16)))))).pull (.there (.there (.there (.there (.there .p16)))))).pull (.there (.there (.there (.there (.there .p16)))))).pull (.there (.there (.there (.there (.there .p16)))))).pull (.there (.there (.there (.there (.there .p16)))))).pull (.there (.there (.there (.there (.there .p16)))))).pull (.there (.there (.there (.there (.there .p16)))))).pull (.there (.there (.there (.there (.there .p16)))))).pull (.there (.there (.there (.there (.there .p16)))))).pull (.there (.there (.there (.there (.there .p16)))))).pull (.there (.there (.there (.there (.there .p16)))))).pull (.there (.there (.there (.there (.there .p16)))))).pull (.there (.there (.there (.there (.there .p16)))))).pull (.there (.there (.there (.there (.there .p16)))))))) ?_
            intro ks
            refine Ops.q (q_asg rfl) ?_
            refine Ops.to rfl ?_
            refine Cd.seq ?_
            refine Cd.region ?_
            refine Ops.q (q_ldB isA_92 rfl .p8 rfl) ?_
            refine Ops.q (q_mv rfl) ?_
            refine Ops.q (q_lookE (v := .bool false) mpT_92 sK_9 rfl rfl .p9 (fun w => run_zv zv_4 w)) ?_
            refine Ops.q (q_not rfl) ?_
            refine Ops.to rfl ?_
            refine Cd.cond_t rfl ?_
            refine Cd.seq ?_
            refine Cd.region ?_
            refine Ops.q (q_ldB isA_92 rfl .p8 rfl) ?_
            refine Ops.q (q_mv rfl) ?_
            refine Ops.mpuE mpT_92 sK_9 rfl rfl rfl .p9 ?_
            refine Ops.to rfl ?_
            refine Cd.region ?_
            refine Ops.q (q_ldB isA_82 rfl .p9 rfl) ?_
            refine Ops.q (q_mv rfl) ?_
            refine Ops.lit [.pointer (some ⟨nb1, 0, none⟩)] el_82 zsb_79 rfl rfl ⟨by decide, by decide⟩ rfl ?_
            intro b63
            refine Ops.nilRow 79 1 ?_
            refine Ops.app (news := [.pointer (some ⟨nb1, 0, none⟩)]) el_82 zsb_79 (by decide) rfl rfl (fun _ hs => hs.ownRo (.there .here)) (fun _ hs => (hs.pull (.there .here)).drop) (fun _ _ => .here) rfl (one rfl) (by omega) (by omega) ?_
            intro a64 c65
            refine Ops.stB [.slice a64 (0 + 1) c65] [.slice a64 (0 + 1) c65] sz_82 rfl rfl rfl (one rfl) .p10 rfl rfl ?_
            refine Ops.to rfl ?_
            refine Cd.seq ?_
            refine Cd.region ?_
            refine Ops.q (q_ldB isA_82 rfl .p10 rfl) ?_
            refine Ops.q (q_len esz_82 rfl) ?_
            refine Ops.q (q_cmp rfl rfl (c_ngt (by decide))) ?_
            refine Ops.to rfl ?_
            refine Cd.cond_f rfl ?_
            refine Cd.endQ (by with_reducible repeat (first | exact nq_end | apply nq_nq | apply xq_then | apply xq_block | apply nq_block)) (fun _ hs => ?_)
            have h1 := node_next (by rw [atL_len]; omega) (((((((((((((((((((((((hs.pull (.there (.there (.there (.there (.there .p16)))))).pull (.there (.there (.there (.there (.there .p16)))))).pull (.there (.there (.there (.there (.there .p16)))))).pull (.there (.there (.there (.there (.there .p16)))))).pull (.there (.there (.there (.there (.there .p16)))))).pull (.there (.there (.there (.there (.there .p16)))))).pull (.there (.there (.there (.there (.there .p16)))))).pull (.there (.there (.there (.there (.there .p16)))))).pull (.there (.there (.there (.there (.there .p16)))))).pull (.there (.there (.there (.there (.there .p16)))))).pull .p13).pull .p13).pull (.there (.there (.there (.there .p16))))).pull .p13).pull .p14).pull (.there (.there (.there .p16)))).pull (.there (.there (.there .p16)))).pull (.there (.there (.there .p16)))).pull (.there (.there (.there .p16)))).pull (.there (.there (.there .p16)))).drop.pull (.there (.there (.there .p16)))).drop.pull (.there (.there (.there .p16)))).drop)
            exact Sat.exI (B := fun y : {y : Nat × Nat × Nat × List Stt × List Cp.RQ × Nat × Nat × Option Addr × Nat // InvT ns ss F idl V (t + 1) y.2.2.2.1 y.2.2.2.2.1} => [rd (NodeF y.1.2.2.2.2.2.1 y.1.1 y.1.2.2.2.2.2.2.1 1 (d + 1)), bun (simO y.1.1 ma mc sa sc ns ip ss.length M (t + 1) y.1.2.1 y.1.2.2.1 y.1.2.2.2.1 y.1.2.2.2.2.1), row y.1.2.2.2.2.2.2.2.1 y.1.2.2.2.2.2.2.2.2 79 1 1 [.pointer (some ⟨y.1.2.2.2.2.2.1, 0, none⟩)], blk b45 82 [.slice y.1.2.2.2.2.2.2.2.1 1 y.1.2.2.2.2.2.2.2.2]]) ⟨(S1, B1, BC1, sts3, q3, nb1, tb1, a64, c65), hc3⟩ h1
        · intro dm x
          refine Cd.pull (.there .here) ?_
          refine Cd.exE ?_
          rintro ⟨⟨S2, B2, BC2, sts2, q2, nb2, tb2, ra2, rc2⟩, hc2⟩
          dsimp only at hc2
          refine Cd.sat (A' := [rd (NodeF nb2 S2 tb2 1 (d + 1)), bun (simO S2 ma mc sa sc ns ip ss.length M (t + 1) B2 BC2 sts2 q2), row ra2 rc2 79 1 1 [.pointer (some ⟨nb2, 0, none⟩)], blk b45 82 [.slice ra2 1 rc2], dblk dm, row ma mc 62 8 ns.length (ns.flatMap ePrm), rd (wφ M E), bun (ds.map dblk), blk b1 40 [.slice na ns.length nc, .int .i64 ip, .slice sa ss.length sc], blk b2 49 [.slice none 0 0, .slice ea evs.length ec, .int .i64 0], blk b3 52 [.slice (some ⟨pb, po, none⟩) 1 pc], blk b4 43 [.slice none 0 0], blk b5 3 [.int .i64 0], blk b6 4 [.bool false], blk b7 33 [.int .i64 0], blk b17 3 [.int .i64 0], blk b20 3 [.int .i64 (t : Int)], blk c1 49 [.slice none 0 0, .slice ea evs.length ec, .int .i64 0], blk c2 3 [.int .i64 (t : Int)], blk c3 3 [.int .i64 0]]) ?_ (fun _ hs => hs)
          refine Cd.region ?_
          refine Ops.q (q_ar (v := 1) rfl rfl (a_add (by decide))) ?_
          refine Ops.q (q_mv rfl) ?_
          refine Ops.rndD (some ⟨(S2, B2, BC2, sts2, q2, nb2, tb2, ra2, rc2, dm), hc2⟩) rfl trivial (Nat.lt_succ_self 0) rfl ⟨rfl, rfl, rfl, rfl, rfl, rfl, rfl, rfl, rfl, rfl, rfl, rfl, rfl, rfl, rfl, rfl, rfl, trivial⟩ (fun _ hs => Sat.bunCons (((((((((((((((((((((hs.pull .p3).pull .p16).pull .p16).pull .p16).pull .p16).pull .p16).pull .p16).pull .p16).pull .p16).pull .p16).pull .p12).pull .p15).pull .p15).pull .p14).pull .p14).pull .p16).pull .p16).pull (.there .p16)).drop.pull (.there .p16)).drop.pull (.there .p16)).drop))
      · change Cd _ _ _ _ _ _ ((dm :: ds).map dmk) [(4, .pointer (some ⟨b1, 0, none⟩)), (5, .pointer (some ⟨b2, 0, none⟩)), (6, .pointer (some ⟨b3, 0, none⟩)), (8, .pointer (some ⟨b4, 0, none⟩)), (9, .pointer (some ⟨b5, 0, none⟩)), (10, .pointer (some ⟨b6, 0, none⟩)), (11, .pointer (some ⟨b7, 0, none⟩)), (16, .pointer (some ⟨b17, 0, none⟩)), (17, .slice ra 1 rc), (69, .int .i64 (T : Int)), (70, .int .i64 (t : Int)), (18, .pointer (some ⟨b20, 0, none⟩)), (25, .pointer (some ⟨b44, 0, none⟩)), (26, .pointer (some ⟨b45, 0, none⟩)), (121, .slice ra 1 rc), (122, .int .i64 1), (123, .int .i64 1)] ([bun ((dm :: ds).map dblk), rd (NodeF nb2 S2 tb2 1 (d + 1)), bun (simO S2 ma mc sa sc ns ip ss.length M (t + 1) B2 BC2 sts2 q2), row ma mc 62 8 ns.length (ns.flatMap ePrm), rd (wφ M E), row ra2 rc2 79 1 1 [.pointer (some ⟨nb2, 0, none⟩)], blk b1 40 [.slice na ns.length nc, .int .i64 ip, .slice sa ss.length sc], blk b2 49 [.slice none 0 0, .slice ea evs.length ec, .int .i64 0], blk b3 52 [.slice (some ⟨pb, po, none⟩) 1 pc], blk b4 43 [.slice none 0 0], blk b5 3 [.int .i64 0], blk b6 4 [.bool false], blk b7 33 [.int .i64 0], blk b17 3 [.int .i64 0], blk b20 3 [.int .i64 (t : Int)], blk b45 82 [.slice ra2 1 rc2]])
        dsimp only at hc2
        refine Cd.seq ?_
        refine Cd.region ?_
        refine Ops.q (q_cmp rfl rfl (c_nlt (by decide))) ?_
        refine Ops.to rfl ?_
        refine Cd.seq ?_
        refine Cd.cond_f rfl ?_
        refine Cd.exitTo rfl ?_
        refine Cd.region ?_
        refine Ops.q (q_ldB isA_82 rfl .p15 rfl) ?_
        refine Ops.q (q_asg rfl) ?_
        refine Ops.to rfl ?_
        refine Cd.region ?_
        refine Ops.q (q_ar rfl rfl (a_inc (by first | omega | decide))) ?_
        refine Ops.q (q_mv rfl) ?_
        refine Ops.rndD (t + 1, S2, B2, BC2, sts2, q2, nb2, tb2, 1, d + 1, ra2, rc2, dm :: ds) rfl ⟨by omega, by show d + 1 ≤ t + 1 + 1; omega, hc2, fun t' h => by by_cases e : t' = t; (· rw [e]; exact hF0); (· exact hI4 t' (by omega))⟩ (by show T - (t + 1) < T - t; omega) rfl ⟨rfl, rfl, rfl, rfl, rfl, rfl, rfl, rfl, rfl, rfl, rfl, trivial⟩ (fun _ hs => ((((((((((((((((hs.pull .p13).pull .p13).pull .p13).pull .p13).pull .p13).pull .p13).pull .p13).pull .p13).pull .p13).pull .p13).pull .p13).pull .p13).pull .p13).pull .p13).pull .p14).drop.pull .p14).drop)
  · refine Ops.q (q_cmp rfl rfl (c_nlt (by omega))) ?_
    refine Ops.to rfl ?_
    refine Cd.seq ?_
    refine Cd.cond_f rfl ?_
    refine Cd.exitTo rfl ?_
    refine Cd.seq ?_
    refine Cd.region ?_
    refine Ops.stB [.slice none 0 0] [.slice none 0 0] sz_43 rfl rfl rfl (one rfl) .p9 rfl rfl ?_
    refine Ops.stB [.int .i64 0] [.int .i64 0] sz_3 rfl rfl rfl (one rfl) .p10 rfl rfl ?_
    refine Ops.stB [.bool false] [.bool false] sz_4 rfl rfl rfl (one rfl) .p11 rfl rfl ?_
    refine Ops.stB [.int .i64 0] [.int .i64 0] sz_33 rfl rfl rfl (one rfl) .p12 rfl rfl ?_
    refine Ops.to rfl ?_
    refine Cd.rtMs (fn := Tryz.f10) [.slice none 0 0, .int .i64 0, .bool false, .int .i64 0] (ds := ds) (A' := [blk b4 43 [.slice none 0 0], blk b5 3 [.int .i64 0], blk b6 4 [.bool false], blk b7 33 [.int .i64 0]]) (by with_reducible repeat (first | exact rqM_here | apply rq_then | apply rq_block)) rfl ⟨⟨_, _, rfl, fun _ hs => run_load1 isA_43 (Sat.atB .here rfl hs)⟩, ⟨_, _, rfl, fun _ hs => run_load1 isA_3 (Sat.atB (.there .here) rfl hs)⟩, ⟨_, _, rfl, fun _ hs => run_load1 isA_4 (Sat.atB .p2 rfl hs)⟩, ⟨_, _, rfl, fun _ hs => run_load1 isA_33 (Sat.atB .p3 rfl hs)⟩, trivial⟩ rfl (fun _ hs => (((((((((((((((hs.pull .p12).pull .p12).pull .p12).pull .p12).pull .p4).pull .p5).drop.pull .p5).drop.pull .p5).drop.pull .p5).drop.pull .p5).drop.pull .p5).drop.pull .p5).drop.pull .p5).drop.pull .p5).drop).unbundle) ?_
    intro w' hs'
    exact ⟨⟨_, _, _, .inr ⟨fun t' h => hI4 t' (by omega), rfl⟩⟩, hs'.none⟩
end Go.Proofs.YtilcdghliigngaaGreatDoor
namespace Go.Proofs.YtilcdghliigngaaGreatDoor
open Go.RowKit Go.Proofs.YtilcdghliigngaaGreatDoorGl Go.Proofs.YtilcdghliigngaaGreatDoorPm
set_option linter.unusedVariables false
set_option linter.unusedSimpArgs false
theorem kn_app (xs ys : List Evt) (t : Nat) : kn (xs ++ ys) t = kn xs t ++ kn ys t := by
  unfold kn
  rw [List.filter_append, List.map_append]
theorem kn_here (ids : List Int) (t : Nat) : kn (ids.map fun i => (⟨(t : Int), i⟩ : Evt)) t = ids := by
  unfold kn
  induction ids with
  | nil => rfl
  | cons x xs ih => rw [List.map_cons, List.filter_cons, if_pos (by simp), List.map_cons, ih]
theorem kn_else (ids : List Int) {t u : Nat} (h : ¬ u = t) : kn (ids.map fun i => (⟨(u : Int), i⟩ : Evt)) t = [] := by
  unfold kn
  rw [List.map_eq_nil_iff, List.filter_eq_nil_iff]
  intro e he
  obtain ⟨i, _, rfl⟩ := List.mem_map.1 he
  simp only [decide_eq_true_eq]
  omega
theorem kn_evF (idl : Nat → List Int) (t : Nat) : ∀ (f now : Nat), kn (evF idl now f) t = if now ≤ t ∧ t < now + f then idl t else []
  | 0, now => by rw [evF, if_neg (by omega)]; rfl
  | f + 1, now => by
    rw [evF, kn_app, kn_evF idl t f (now + 1)]
    by_cases c : now = t
    · subst c
      rw [kn_here, if_neg (by omega), if_pos (by omega), List.append_nil]
    · rw [kn_else _ c, List.nil_append]
      by_cases h : now + 1 ≤ t ∧ t < now + 1 + f
      · rw [if_pos h, if_pos (by omega)]
      · rw [if_neg h, if_neg (by omega)]
theorem sum_le {ss : List Syn} (h : ∀ s ∈ ss, s.wt = 1) (p : Syn → Prop) [DecidablePred p] : 0 ≤ sumI (fun s => if p s then s.wt else 0) ss ∧ sumI (fun s => if p s then s.wt else 0) ss ≤ (ss.length : Int) := by
  induction ss with
  | nil => simp [sumI]
  | cons x xs ih =>
    have ih := ih (fun s hs => h s (List.mem_cons_of_mem _ hs))
    have hx := h x List.mem_cons_self
    simp only [sumI, List.length_cons]
    rw [hx] at *
    split <;> omega
namespace AutOK
variable {nx : List (List Int)} {st : Int} {acc : List Bool} {ws : List Int} {k : Nat} (h : AutOK nx st acc ws k)
include h
theorem ss_len4 (hs4 : nx.length ≤ 4) (hk3 : k ≤ 3) : (autSs nx st acc k).length ≤ 41 := by
  unfold autSs
  have h3 : nx.length * (k * 3) ≤ 4 * (3 * 3) := Nat.mul_le_mul hs4 (Nat.mul_le_mul_right 3 hk3)
  have h4 : (accTo nx.length k acc acc.length).length ≤ acc.length := by
    unfold accTo
    rw [List.length_flatMap]
    have : ∀ n : Nat, ((List.range n).map (fun q => (accS nx.length k acc q).length)).sum ≤ n := fun n => by
      induction n with
      | zero => simp
      | succ n ih =>
        rw [List.range_succ, List.map_append, List.sum_append]
        have := accS_len nx.length k acc n
        simp only [List.map_cons, List.map_nil, List.sum_cons, List.sum_nil]; omega
    exact this _
  have h5 := h.acc
  rw [List.length_append, List.length_append, rowsTo_len h.row (Nat.le_refl _)]
  simp only [List.length_cons, List.length_nil]
  omega
theorem rch (hs4 : nx.length ≤ 4) (hk3 : k ≤ 3) (hl : ws.length ≤ 40) : RchI (autN nx st acc k).ns (autN nx st acc k).inp (autN nx st acc k).ss (evA ws k) (autF nx st acc ws k) (idlA ws k) (autV nx st acc ws k) := by
  have hln : (mNs nx.length k (nx.length + nx.length * k + 1)).length = nx.length + nx.length * k + 1 := mNs_len _ _ _
  have hB := h.bnd (by omega) (by omega) hl
  have hX : ∀ t d, 0 ≤ inX (autSs nx st acc k) (autF nx st acc ws k) (idlA ws k) t d ∧ inX (autSs nx st acc k) (autF nx st acc ws k) (idlA ws k) t d ≤ 1600 := fun t d => by
    have h1 := inX_one (ss := autSs nx st acc k) (F := autF nx st acc ws k) (idl := idlA ws k) (k := t) (d := d) (fun s hs _ => h.wt1 hs)
    have h2 := h.ss_len
    exact ⟨h1.1, by have := h1.2.1; omega⟩
  refine ⟨h.net, ?_, fun d => rfl, fun t d _ => by have := hX t d; show _ ≤ inX (autSs nx st acc k) _ _ t d ∧ inX (autSs nx st acc k) _ _ t d ≤ _; omega, ?_, fun t j d => ?_, hB.Vb, fun d p hp => by rw [hB.gate d p hp]; rfl, fun t => ?_, fun t => ?_, hB.evOK⟩
  · exact ⟨fun p hp => by
      obtain ⟨j, _, rfl⟩ := List.mem_map.1 hp
      exact ⟨by unfold hN; split <;> decide, rfl⟩,
     fun s hs => by
      have hs' : s ∈ autSs nx st acc k := hs
      show s.src < ((mNs nx.length k (nx.length + nx.length * k + 1)).length : Int) ∧ 0 ≤ s.dst ∧ s.dst < ((mNs nx.length k (nx.length + nx.length * k + 1)).length : Int) ∧ _
      rw [hln]
      have h4 := h.st; have h5 := h.acc
      rcases ss_mem.1 hs' with rfl | ⟨q, c, hq, hc, rfl | rfl | rfl⟩ | ⟨q, hq, hc, rfl⟩
      · dsimp only; omega
      · have := kq_lt hq (Nat.lt_of_lt_of_le hc (h.rlen q).1); dsimp only; omega
      · have := kq_lt hq (Nat.lt_of_lt_of_le hc (h.rlen q).1); dsimp only; omega
      · have := kq_lt hq (Nat.lt_of_lt_of_le hc (h.rlen q).1); have := h.rval hq (Nat.lt_of_lt_of_le hc (h.rlen q).1); dsimp only; omega
      · dsimp only; omega,
     fun t => ⟨(h.idl_ok t).1.imp (fun h => by omega), fun i hi => by have := (h.idl_ok t).2 i hi; unfold wi at this; omega⟩⟩
  · intro t d p hp
    have hd : d < nx.length + nx.length * k + 1 := by have := (List.getElem?_eq_some_iff.1 hp).1; rw [show (autN nx st acc k).ns.length = _ from hln] at this; exact this
    rw [hB.gate d p hp]
    have := hX t d
    show stepV _ _ (inX (autSs nx st acc k) (autF nx st acc ws k) (idlA ws k) t d) = _
    rw [stepV_gate (by unfold hN; split <;> omega) (by omega), ← h.fires hd]; rfl
  · have h1 := sum_le (ss := autSs nx st acc k) (fun s hs => h.wt1 hs) (fun s => s.dst = (d : Int) ∧ (j : Int) < s.dl ∧ s.dl ≤ (t : Int) + j ∧ srcF (autF nx st acc ws k) (idlA ws k) ((t : Int) + j - s.dl).toNat s.src = true)
    have h2 := h.ss_len4 hs4 hk3
    show 0 ≤ dueY (autSs nx st acc k) _ _ t j d ∧ dueY (autSs nx st acc k) _ _ t j d ≤ 99
    unfold dueY
    omega
  · rw [← evF_eq, kn_evF]
    by_cases c : 0 ≤ t ∧ t < 0 + (3 * ws.length + 20)
    · rw [if_pos c]
    · rw [if_neg c, idl_none (by omega)]
  · refine ⟨(h.idl_ok t).1.imp (fun h => by omega), ?_, fun i hi => ?_⟩
    · unfold idlA
      rw [List.length_append]
      split <;> split <;> simp
    · have := (h.idl_ok t).2 i hi
      unfold wi at this
      show 0 ≤ i ∧ i < ((k + 1 : Nat) : Int)
      omega
end AutOK
def accAt (nx : List (List Int)) (st : Int) (acc : List Bool) (ws : List Int) (i : Nat) : Bool := acc.getD (wN nx st ws i) false
theorem accP_at (nx : List (List Int)) (st : Int) (acc : List Bool) (ws : List Int) : accP nx st acc ws = accAt nx st acc ws ws.length := rfl
theorem autF_at (nx : List (List Int)) (st : Int) (acc : List Bool) (ws : List Int) (k t : Nat) : autF nx st acc ws k t (nx.length + nx.length * k) = decide (t % 3 = 2 ∧ t / 3 ≤ ws.length ∧ accAt nx st acc ws (t / 3) = true) := by
  unfold autF
  rw [if_neg (by omega), if_neg (by omega)]; rfl
theorem first_law {nx : List (List Int)} {st : Int} {acc : List Bool} {ws : List Int} {k : Nat} {tk fst : Int} {fd : Bool}
    (h : (∃ t : Nat, t < 3 * ws.length + 3 ∧ autF nx st acc ws k t (nx.length + nx.length * k) = true ∧ (∀ t', t' < t → autF nx st acc ws k t' (nx.length + nx.length * k) = false) ∧ tk = (t : Int) ∧ fd = true) ∨ ((∀ t, t < 3 * ws.length + 3 → autF nx st acc ws k t (nx.length + nx.length * k) = false) ∧ tk = 0 ∧ fd = false))
    (hf : (fst = -1 ∧ ∀ i, i ≤ ws.length → accAt nx st acc ws i = false) ∨ ∃ f : Nat, fst = (f : Int) ∧ f ≤ ws.length ∧ accAt nx st acc ws f = true ∧ ∀ i, i < f → accAt nx st acc ws i = false) :
    (fd = true ∧ ∃ f : Nat, fst = (f : Int) ∧ tk = 3 * (f : Int) + 2 ∧ f ≤ ws.length) ∨ (fd = false ∧ fst = -1 ∧ tk = 0) := by
  simp only [autF_at, decide_eq_true_eq, decide_eq_false_iff_not] at h
  rcases h with ⟨t, h1, ⟨h2, h3, h4⟩, h5, rfl, rfl⟩ | ⟨h1, rfl, rfl⟩
  · left
    refine ⟨rfl, ?_⟩
    rcases hf with ⟨_, hf2⟩ | ⟨f, hf1, hf2, hf3, hf4⟩
    · rw [hf2 _ h3] at h4; cases h4
    · refine ⟨f, hf1, ?_, hf2⟩
      have e : t / 3 = f := by
        by_cases c : t / 3 < f
        · rw [hf4 _ c] at h4; cases h4
        · by_cases c2 : f < t / 3
          · exact absurd ⟨by omega, by rw [show (3 * f + 2) / 3 = f by omega]; exact hf2, by rw [show (3 * f + 2) / 3 = f by omega]; exact hf3⟩ (h5 (3 * f + 2) (by omega))
          · omega
      omega
  · right
    refine ⟨rfl, ?_, rfl⟩
    rcases hf with ⟨hf1, _⟩ | ⟨f, hf1, hf2, hf3, hf4⟩
    · exact hf1
    · exact absurd ⟨by omega, by rw [show (3 * f + 2) / 3 = f by omega]; exact hf2, by rw [show (3 * f + 2) / 3 = f by omega]; exact hf3⟩ (h1 (3 * f + 2) (by omega))
theorem table_ok {bs cs5 : List Int} {d m : Int} {S K : Nat} (hS : 1 ≤ S ∧ S ≤ 4) (hK : 1 ≤ K ∧ K ≤ 3) (hd : 0 ≤ d) (hbs : ∀ x ∈ bs, 0 ≤ x ∧ x ≤ 255) (hcs : ∀ x ∈ cs5, 0 ≤ x ∧ x ≤ 255) : AutOK (autX bs S K) (d % (S : Int)) (accL m S) (wordX cs5 K) K := by
  have hl : (autX bs S K).length = S := by unfold autX; simp
  refine ⟨by rw [hl]; omega, by omega, fun r hr => ?_, fun r hr x hx => ?_, ?_, ?_, fun x hx => ?_⟩
  · obtain ⟨s, _, rfl⟩ := List.mem_map.1 hr
    unfold rowX; simp
  · obtain ⟨s, _, rfl⟩ := List.mem_map.1 hr
    obtain ⟨c, _, rfl⟩ := List.mem_map.1 hx
    rw [hl]
    unfold cellX
    split
    · exact ⟨Int.emod_nonneg _ (by omega), Int.emod_lt_of_pos _ (by omega)⟩
    · omega
  · rw [hl]; exact ⟨Int.emod_nonneg _ (by omega), Int.emod_lt_of_pos _ (by omega)⟩
  · rw [hl]; unfold accL; simp
  · obtain ⟨y, _, rfl⟩ := List.mem_map.1 hx
    exact ⟨Int.emod_nonneg _ (by omega), Int.emod_lt_of_pos _ (by omega)⟩
theorem autX_len (bs : List Int) (S K : Nat) : (autX bs S K).length = S := by unfold autX; simp
theorem accL_len (m : Int) (S : Nat) : (accL m S).length = S := by unfold accL; simp
theorem wordX_len (cs : List Int) (K : Nat) : (wordX cs K).length ≤ 10 := by
  unfold wordX
  rw [List.length_map, List.length_take]; omega
end Go.Proofs.YtilcdghliigngaaGreatDoor
