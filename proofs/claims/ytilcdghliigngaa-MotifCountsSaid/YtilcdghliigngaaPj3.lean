/- Part of a claim: the program logic, the contracts of the functions, their models. No condition. -/
import Derived.WalkKit
import Derived.OwnWalkIn
import Derived.TacticsInMore
import Derived.OrdersIn
import Derived.RangeFuncLeaves
import Derived.RangeFuncNested
import Derived.Maps.AppendAt
import Derived.Shelf.Abstract
import Derived.Test.YtilcdghliigngaaProg
import Derived.MapKept
import Derived.Laws.StructEq
import Derived.Laws.OwnMore
import Derived.RangeFuncRecord
import Derived.Lib.SliceRun
import Derived.Lib.AppendZeros
import Derived.Lib.AppendZerosOnto
import Derived.Lib.Overlaps
import Derived.Laws.Externs
import Derived.Test.YtilcdghliigngaaPj2
namespace Go.Proofs.YtilcdghliigngaaGl
set_option linter.unusedVariables false
set_option linter.unusedSimpArgs false
open Go.RowKit
section
variable {P : Program} {r : Option Nat} {ops : Array Oper} {Q : Exit → Act → World → Prop} {w0 : World} {n : Nat} {D : List Deferred} {rest : List Oper} {L : Env} {A : List Atom}
variable {t : Nat} {ty : TypeId} {pos : String} {af : Array Edge} {g : Option (Nat × Bool)}
theorem q_and {tx tz : TypeId} {x y : Operand} {k : IntKind} {i j v : Int} (hx : ev L x = some (.int k i)) (hy : ev L y = some (.int k j)) (hv : k.wrap (BitVec.ofInt k.bits i &&& BitVec.ofInt k.bits j).toNat = v) : Qv P w0 n D L A (.binOp .and tx x y tz) (.int k v) := fun a w hk _ _ _ _ _ _ => ⟨by
  subst hv
  simp [execOp, hk.ev hx, hk.ev hy, eqGuard, binOp, Op.intBits], rfl⟩
theorem q_shr {tx tz : TypeId} {x y : Operand} {k k' : IntKind} {i v : Int} {j : Nat} (hx : ev L x = some (.int k i)) (hy : ev L y = some (.int k' (j : Int))) (hv : i.fdiv (2 ^ min j k.bits) = v) : Qv P w0 n D L A (.binOp .shr tx x y tz) (.int k v) := fun a w hk _ _ _ _ _ _ => ⟨by
  subst hv
  have : ¬ (j : Int) < 0 := by omega
  simp [execOp, hk.ev hx, hk.ev hy, eqGuard, binOp, Op.shift, this], rfl⟩
theorem q_cutP {T E : TypeId} {x y : Operand} {sz len cap k b o : Nat} {kd : IntKind} (hT : elT P T = some E) (hz : szT P E = some sz) (hx : ev L x = some (.slice (some ⟨b, o, none⟩) len cap)) (hy : ev L y = some (.int kd (k : Int))) (hk : k ≤ len) (hc : k < cap) :
    Qv P w0 n D L A (.slice T x (some y) none none) (.slice (some ⟨b, o + k * sz, none⟩) (len - k) (cap - k)) := by
  have := q_cut (P := P) (w0 := w0) (n := n) (D := D) (A := A) hT hz hx hy hk
  rw [if_neg (by omega)] at this
  simpa [add_at] using this
theorem q_cutHP {T E : TypeId} {x y : Operand} {sz len cap k b o : Nat} {kd : IntKind} (hT : elT P T = some E) (hz : szT P E = some sz) (hx : ev L x = some (.slice (some ⟨b, o, none⟩) len cap)) (hy : ev L y = some (.int kd (k : Int))) (hk : k ≤ cap) :
    Qv P w0 n D L A (.slice T x none (some y) none) (.slice (some ⟨b, o, none⟩) k cap) := by
  have := q_cutH (P := P) (w0 := w0) (n := n) (D := D) (A := A) hT hz hx hy hk
  have e : (if cap = 0 then (some ⟨b, o, none⟩ : Option Addr) else (some ⟨b, o, none⟩ : Option Addr).map (·.add 0)) = some ⟨b, o, none⟩ := by
    split
    · rfl
    · simp [add_at]
  rwa [e] at this
theorem run_first {w : World} {a : Option Addr} {sl sc k sz : Nat} {news : List Value} (hr : Ro w a news) (hl : news.length = k * sz) : (Builtin.firstCells sz k (.slice a sl sc)).run P w = .ok news.toArray w := by
  rcases Nat.eq_zero_or_pos news.length with h0 | h0
  · have hn : news = [] := List.eq_nil_of_length_eq_zero h0
    subst hn
    have hk : k * sz = 0 := by simpa using hl.symm
    have hk2 : sz * k = 0 := by rw [Nat.mul_comm]; exact hk
    cases a with
    | none =>
      rcases Nat.mul_eq_zero.1 hk with rfl | rfl <;> simp [Builtin.firstCells]
    | some p => simp [Builtin.firstCells, loadCells, loadCellsFrom, hk, hk2]
  · obtain ⟨b, o, rfl⟩ := hr.pos h0
    have h1 := run_loadCells_list (P := P) w ⟨b, o, none⟩ news (fun j v hj => by rw [add_at]; exact hr.at hj)
    rw [hl] at h1
    simp [Builtin.firstCells, h1, Nat.mul_comm]
theorem Ops.cpy {T E : TypeId} {x y : Operand} {cs cs' news : List Value} {sz cap m k b o dl dc sl sc : Nat} {sa : Option Addr} {A' : List Atom} (hT : elT P T = some E) (hz : szT P E = some sz) (hx : ev L x = some (.slice (some ⟨b, o, none⟩) dl dc)) (hy : ev L y = some (.slice sa sl sc)) (hk : min sl dl = k)
    (hn : ∀ w, Sat w0 w A → Ro w sa news) (hnl : news.length = k * sz) (h1 : ∀ u ∈ news, u.oneCell' = true) (hu : Upd A (row (some ⟨b, 0, none⟩) cap E sz m cs) (row (some ⟨b, 0, none⟩) cap E sz m cs') A') (hl : o + news.length ≤ cs.length) (hc : cs.take o ++ news ++ cs.drop (o + news.length) = cs')
    (h : Ops P r ops Q w0 n D rest ((t, .int .i64 (k : Int)) :: L) A')
    (hg : gd ops L ⟨some t, .call ⟨.builtin .copy, #[x, y], #[T, T]⟩, ty, pos, af, g⟩ = some true := by rfl) (ht : Nat.blt t n = true := by rfl) :
    Ops P r ops Q w0 n D (⟨some t, .call ⟨.builtin .copy, #[x, y], #[T, T]⟩, ty, pos, af, g⟩ :: rest) L A :=
  Ops.val (α := Unit) (v := fun _ => .int .i64 (k : Int)) (A' := fun _ => A') hg rfl ht rfl (fun ac w hk' hs => by
    obtain ⟨R, hp, hp'⟩ := hu.pull
    have hro := hn w hs
    obtain ⟨S, hS, _, hgo⟩ := (hs.pull hp).step
    obtain ⟨⟨hlen, hown⟩, hSb⟩ := hS
    rcases hown with ⟨h0, _⟩ | ⟨b', cap', cur, hv0, _, hh, h2, h3, h4, h5⟩
    · cases h0
    · cases hv0
      have hcl : cs.length ≤ cur.size := by rw [← h5, List.length_take]; simp; omega
      have e : cur = (cs ++ cur.toList.drop (m * sz)).toArray := by
        apply Array.toList_inj.1
        simp only [← h5, List.take_append_drop]
      have hh' : w.heap[b]? = some (.cells (cs ++ cur.toList.drop (m * sz)).toArray E (0, 0)) := by rw [← e]; exact hh
      have hst := run_storeCells_at P b o E news 0 (cs ++ cur.toList.drop (m * sz)).toArray w hh' (by simp; omega) h1
      simp only [Nat.add_zero] at hst
      have e2 : (cs ++ cur.toList.drop (m * sz)).take o ++ news ++ (cs ++ cur.toList.drop (m * sz)).drop (o + news.length) = cs' ++ cur.toList.drop (m * sz) := by
        rw [← hc, List.take_append_of_le_length (by omega), List.drop_append_of_le_length (by omega)]
        simp
      rw [e2] at hst
      have hk2 : Nat.min sl dl = k := hk
      have hf := run_first (P := P) (sl := sl) (sc := sc) hro hnl
      refine ⟨(), w.setRow b (cs' ++ cur.toList.drop (m * sz)).toArray, ?_, Sat.push ?_ hp'⟩
      · simp only [execOp, resolve, invoke, builtin, hk'.ev hx, hk'.ev hy, List.map_toArray, List.map_cons, List.map_nil, Sem.run_bind, Sem.run_pure, Result.andThen_ok, Builtin.copy_]
        simp [run_underlying (elT_u hT), Builtin.lenOf, hk2, run_sizeOf hz, hf, hst, goInt]
      · have hcl' : cs'.length = cs.length := by rw [← hc]; simp; omega
        refine hgo (S' := fun k => k = b) ⟨⟨by rw [hcl', hlen], .inr ⟨b, cap, _, rfl, Nat.zero_le _, setRow_heap w b _ _ E _ hh, h2, h3, ?_, ?_⟩⟩, fun k => by simp [Value.ownBlock, eq_comm]⟩ (fun k hk => .inl ((hSb k).2 (by simp [Value.ownBlock, hk])))
          rfl rfl rfl (by simp) (fun k _ hk => setRow_other w b k _ (fun e => hk ((hSb k).2 (by simp [Value.ownBlock, e]))))
        · simp only [List.size_toArray, List.length_append, List.length_drop, Array.length_toList, hcl', hlen]
          rw [hlen] at hcl
          omega
        · simp only [List.toList_toArray]
          rw [← hlen, ← hcl']
          exact List.take_left) (fun _ => h)
end
end Go.Proofs.YtilcdghliigngaaGl
namespace Go.Proofs.Ytilcdghliigngaa
open Go.RowKit Go.Proofs.YtilcdghliigngaaGl Go.Proofs.YtilcdghliigngaaPm
set_option linter.unusedVariables false
set_option linter.unusedSimpArgs false
theorem u64_in {y : Int} (h : 0 ≤ y ∧ y < 4294967296) : IntKind.u64.wrap y = y := by
  simp [IntKind.wrap, IntKind.bits, IntKind.signed]; omega
theorem and_mask {y : Int} (h : 0 ≤ y ∧ y < 4294967296) : IntKind.u64.wrap ((BitVec.ofInt IntKind.u64.bits y &&& BitVec.ofInt IntKind.u64.bits 4294967295).toNat : Int) = y := by
  obtain ⟨m, rfl⟩ : ∃ m : Nat, y = (m : Int) := ⟨y.toNat, by omega⟩
  have e1 : (BitVec.ofInt IntKind.u64.bits (m : Int)).toNat = m := by
    simp [IntKind.bits, BitVec.toNat_ofInt]; omega
  have e2 : (BitVec.ofInt IntKind.u64.bits 4294967295).toNat = 2 ^ 32 - 1 := by rfl
  rw [BitVec.toNat_and, e1, e2, Nat.and_two_pow_sub_one_eq_mod, Nat.mod_eq_of_lt (by omega)]
  exact u64_in (by omega)
theorem shr32 {y : Int} (h : 0 ≤ y ∧ y < 4294967296) : y.fdiv (2 ^ min 32 IntKind.u64.bits) = 0 := by
  have e : (2 : Int) ^ min 32 IntKind.u64.bits = 4294967296 := by rfl
  rw [e, Int.fdiv_eq_ediv_of_nonneg _ (by omega)]; omega
theorem mul1u {y : Int} (h : 0 ≤ y ∧ y < 4294967296) : arV .mul .u64 1 y = some y := by
  simp only [arV, Int.one_mul, u64_in h]
theorem mul0u {y : Int} : arV .mul .u64 0 y = some 0 := by
  simp only [arV, Int.zero_mul]; rfl
theorem Ro.pre {w : World} {a : Option Addr} {cs ds : List Value} (h : Ro w a (cs ++ ds)) : Ro w a cs := fun j u hu => h j u (by rw [List.getElem?_append_left (List.getElem?_eq_some_iff.1 hu).1]; exact hu)
theorem eInt_map (xs : List Int) : xs.flatMap eInt = xs.map (.int .i64) := by
  induction xs with
  | nil => rfl
  | cons x xs ih => rw [List.flatMap_cons, ih]; rfl
def fillR (v : Int) (n k : Nat) : List Int := List.replicate k v ++ List.replicate (n - k) 0
theorem fillR_step (v : Int) {n k j : Nat} (hk : k + j ≤ n) (o : Nat) (ho : o = k) : ((fillR v n k).flatMap eInt).take o ++ ((List.replicate j v).flatMap eInt) ++ ((fillR v n k).flatMap eInt).drop (o + ((List.replicate j v).flatMap eInt).length) = (fillR v n (k + j)).flatMap eInt := by
  subst ho
  simp only [eInt_map, fillR, List.map_append, List.map_replicate, List.length_replicate]
  obtain ⟨q, hq⟩ : ∃ q, n - o = j + q := ⟨n - o - j, by omega⟩
  have hq2 : n - (o + j) = q := by omega
  rw [hq, hq2, List.take_append_of_le_length (by simp), List.take_of_length_le (by simp), List.drop_append, List.drop_of_length_le (by simp)]
  simp
  try rw [← List.append_assoc, List.replicate_append_replicate]
theorem fillR_full (v : Int) {n k : Nat} (h : k = n) : fillR v n k = List.replicate n v := by
  subst h; simp [fillR]
theorem fillR_pre (v : Int) {n k j : Nat} (hj : j ≤ k) : ∃ ds, (fillR v n k).flatMap eInt = (List.replicate j v).flatMap eInt ++ ds := by
  obtain ⟨q, rfl⟩ : ∃ q, k = j + q := ⟨k - j, by omega⟩
  refine ⟨(List.replicate q v ++ List.replicate (n - (j + q)) 0).flatMap eInt, ?_⟩
  rw [← List.flatMap_append, ← List.append_assoc, List.replicate_append_replicate]; rfl
theorem rep_fill (v : Int) (n : Nat) : rep n [Value.int .i64 0] = (fillR v n 0).flatMap eInt := by rw [rep_int]; rfl
theorem mul64_c (y : Int) (w : World) (hy : 0 ≤ y ∧ y < 4294967296) : Calls Try.prog 109 [.int .u64 1, .int .u64 y].toArray w fun e w' => e = .returned (.tuple [.int .u64 0, .int .u64 y].toArray) ∧ Sat w w' [] := by
  refine fstart Try.func109 rfl rfl (Sat.nil w) ?_
  refine Cd.seq ?_
  refine Cd.region ?_
  refine Ops.q (q_asg rfl) ?_
  refine Ops.q (q_asg rfl) ?_
  refine Ops.to rfl ?_
  refine Cd.seq ?_
  refine Cd.region ?_
  refine Ops.q (q_mv rfl) ?_
  refine Ops.q (q_and rfl rfl (rfl)) ?_
  refine Ops.q (q_asg rfl) ?_
  refine Ops.to rfl ?_
  refine Cd.seq ?_
  refine Cd.region ?_
  refine Ops.q (q_mv rfl) ?_
  refine Ops.q (q_shr (j := 32) rfl rfl (rfl)) ?_
  refine Ops.q (q_asg rfl) ?_
  refine Ops.to rfl ?_
  refine Cd.seq ?_
  refine Cd.region ?_
  refine Ops.q (q_mv rfl) ?_
  refine Ops.q (q_and rfl rfl (and_mask hy)) ?_
  refine Ops.q (q_asg rfl) ?_
  refine Ops.to rfl ?_
  refine Cd.seq ?_
  refine Cd.region ?_
  refine Ops.q (q_mv rfl) ?_
  refine Ops.q (q_shr (j := 32) rfl rfl (shr32 hy)) ?_
  refine Ops.q (q_asg rfl) ?_
  refine Ops.to rfl ?_
  refine Cd.seq ?_
  refine Cd.region ?_
  refine Ops.q (q_mv rfl) ?_
  refine Ops.q (q_mv rfl) ?_
  refine Ops.q (q_ar rfl rfl (mul1u hy)) ?_
  refine Ops.q (q_asg rfl) ?_
  refine Ops.to rfl ?_
  refine Cd.seq ?_
  refine Cd.region ?_
  refine Ops.q (q_mv rfl) ?_
  refine Ops.q (q_mv rfl) ?_
  refine Ops.q (q_ar rfl rfl (mul0u)) ?_
  refine Ops.q (q_mv rfl) ?_
  refine Ops.q (q_shr (j := 32) rfl rfl (shr32 hy)) ?_
  refine Ops.q (q_ar rfl rfl (rfl)) ?_
  refine Ops.q (q_asg rfl) ?_
  refine Ops.to rfl ?_
  refine Cd.seq ?_
  refine Cd.region ?_
  refine Ops.q (q_mv rfl) ?_
  refine Ops.q (q_and rfl rfl (rfl)) ?_
  refine Ops.q (q_asg rfl) ?_
  refine Ops.to rfl ?_
  refine Cd.seq ?_
  refine Cd.region ?_
  refine Ops.q (q_mv rfl) ?_
  refine Ops.q (q_shr (j := 32) rfl rfl (rfl)) ?_
  refine Ops.q (q_asg rfl) ?_
  refine Ops.to rfl ?_
  refine Cd.seq ?_
  refine Cd.region ?_
  refine Ops.q (q_mv rfl) ?_
  refine Ops.q (q_mv rfl) ?_
  refine Ops.q (q_mv rfl) ?_
  refine Ops.q (q_ar rfl rfl (rfl)) ?_
  refine Ops.q (q_ar rfl rfl (rfl)) ?_
  refine Ops.q (q_asg rfl) ?_
  refine Ops.to rfl ?_
  refine Cd.seq ?_
  refine Cd.region ?_
  refine Ops.q (q_mv rfl) ?_
  refine Ops.q (q_mv rfl) ?_
  refine Ops.q (q_ar rfl rfl (rfl)) ?_
  refine Ops.q (q_mv rfl) ?_
  refine Ops.q (q_ar rfl rfl (rfl)) ?_
  refine Ops.q (q_mv rfl) ?_
  refine Ops.q (q_shr (j := 32) rfl rfl (rfl)) ?_
  refine Ops.q (q_ar rfl rfl (rfl)) ?_
  refine Ops.q (q_asg rfl) ?_
  refine Ops.to rfl ?_
  refine Cd.seq ?_
  refine Cd.region ?_
  refine Ops.q (q_mv rfl) ?_
  refine Ops.q (q_mv rfl) ?_
  refine Ops.q (q_ar rfl rfl (mul1u hy)) ?_
  refine Ops.q (q_asg rfl) ?_
  refine Ops.to rfl ?_
  refine Cd.rt (fn := Try.f109) [.int .u64 0, .int .u64 y] (by with_reducible repeat (first | exact rq_here | apply rq_then | apply rq_block)) rfl ⟨rfl, rfl, trivial⟩ ?_
  intro w' hs
  exact ⟨rfl, hs.none⟩
theorem mul_c (y : Int) (w : World) (hy : 0 ≤ y ∧ y < 4294967296) : Calls Try.prog 87 [.int .u64 1, .int .u64 y].toArray w fun e w' => e = .returned (.tuple [.int .u64 0, .int .u64 y].toArray) ∧ Sat w w' [] := by
  refine fstart Try.func87 rfl rfl (Sat.nil w) ?_
  refine Cd.seq ?_
  refine Cd.region ?_
  refine Ops.q (q_asg rfl) ?_
  refine Ops.q (q_asg rfl) ?_
  refine Ops.to rfl ?_
  refine Cd.seq ?_
  refine Cd.cond_f rfl ?_
  refine Cd.skipTo rfl ?_
  refine Cd.seq ?_
  refine Cd.region ?_
  refine Ops.q (q_mv rfl) ?_
  refine Ops.q (q_mv rfl) ?_
  refine Ops.cp en_109 rfl (fun w hs => mul64_c y w hy) ?_
  refine Ops.q (q_mv rfl) ?_
  refine Ops.q (q_ext rfl rfl) ?_
  refine Ops.q (q_ext rfl rfl) ?_
  refine Ops.q (q_asg rfl) ?_
  refine Ops.q (q_asg rfl) ?_
  refine Ops.to rfl ?_
  refine Cd.seq ?_
  refine Cd.region ?_
  refine Ops.q (q_mv rfl) ?_
  refine Ops.q (q_mv rfl) ?_
  refine Ops.q (q_asg rfl) ?_
  refine Ops.q (q_asg rfl) ?_
  refine Ops.to rfl ?_
  refine Cd.rt (fn := Try.f87) [.int .u64 0, .int .u64 y] (by with_reducible repeat (first | exact rq_here | apply rq_then | apply rq_block)) rfl ⟨rfl, rfl, trivial⟩ ?_
  intro w' hs
  exact ⟨rfl, hs.none⟩
theorem repeat_c (xb : Nat) (v : Int) (n : Nat) (w0 w : World) (F : List Atom) (hn : 1 ≤ n ∧ n ≤ 100000) (hs : Sat w0 w (row (some ⟨xb, 0, none⟩) 1 3 1 1 [.int .i64 v] :: F)) : Calls Try.prog 52 [.slice (some ⟨xb, 0, none⟩) 1 1, .int .i64 (n : Int)].toArray w fun e w' => ∃ p : Option Addr × Nat, e = .returned (.slice p.1 n p.2) ∧ Sat w0 w' (row p.1 p.2 3 1 n ((List.replicate n v).flatMap eInt) :: row (some ⟨xb, 0, none⟩) 1 3 1 1 [.int .i64 v] :: F) := by
  refine fstart Try.func52 rfl rfl hs ?_
  refine Cd.seq ?_
  refine Cd.region ?_
  refine Ops.q (q_asg rfl) ?_
  refine Ops.to rfl ?_
  refine Cd.seq ?_
  refine Cd.seq ?_
  refine Cd.region ?_
  refine Ops.q (q_mv rfl) ?_
  refine Ops.q (q_cmp rfl rfl (c_nlt (by omega))) ?_
  refine Ops.to rfl ?_
  refine Cd.cond_f rfl ?_
  refine Cd.skipTo rfl ?_
  refine Cd.seq ?_
  refine Cd.region ?_
  refine Ops.q (q_mv rfl) ?_
  refine Ops.q (q_len esz_26 rfl) ?_
  refine Ops.q (q_conv iK_3 iK_83 rfl (rfl)) ?_
  refine Ops.q (q_mv rfl) ?_
  refine Ops.q (q_conv iK_3 iK_83 rfl (u64_in (by omega))) ?_
  refine Ops.cp en_87 rfl (fun w hs => mul_c (n : Int) w (by omega)) ?_
  refine Ops.q (q_mv rfl) ?_
  refine Ops.q (q_ext rfl rfl) ?_
  refine Ops.q (q_ext rfl rfl) ?_
  refine Ops.q (q_asg rfl) ?_
  refine Ops.q (q_asg rfl) ?_
  refine Ops.to rfl ?_
  refine Cd.seq ?_
  refine Cd.seq ?_
  refine Cd.region ?_
  refine Ops.q (q_mv rfl) ?_
  refine Ops.q (q_cmp rfl rfl (c_ngt (by omega))) ?_
  refine Ops.q (q_mv rfl) ?_
  refine Ops.q (q_mv rfl) ?_
  refine Ops.q (q_cmp rfl rfl (c_ngt (by omega))) ?_
  refine Ops.q (q_pickF rfl rfl) ?_
  refine Ops.to rfl ?_
  refine Cd.cond_f rfl ?_
  refine Cd.skipTo rfl ?_
  refine Cd.seq ?_
  refine Cd.region ?_
  refine Ops.q (q_mv rfl) ?_
  refine Ops.q (q_conv iK_83 iK_3 rfl (IntWalk.i64_in _ (by omega))) ?_
  refine Ops.mks (m := n) el_26 zsb_3 rfl rfl (by omega) (by omega) ?_
  intro b1
  refine Ops.q (q_asg rfl) ?_
  refine Ops.to rfl ?_
  refine Cd.seq ?_
  refine Cd.region ?_
  refine Ops.q (q_mv rfl) ?_
  refine Ops.q (q_mv rfl) ?_
  refine Ops.cpy (news := (List.replicate 1 v).flatMap eInt) (cs' := (fillR v n (0 + 1)).flatMap eInt) el_26 sz_3 rfl rfl (show min 1 n = 1 by omega) (fun _ hs => hs.ownRo (.there .here)) rfl (fm_one eInt_one _) .here (by rw [rep_length]; simp [eInt]; omega) (by rw [rep_fill v]; exact fillR_step v (by omega) 0 rfl) ?_
  refine Ops.q (q_asg rfl) ?_
  refine Ops.to rfl ?_
  refine Cd.seq ?_
  refine Cd.block ?_
  refine Cd.lp (σ := Nat) (fun kk => 1 ≤ kk ∧ kk ≤ n) (fun kk => [(7, .slice (some ⟨b1, 0, none⟩) n n), (8, .int .i64 (kk : Int))]) (fun kk => row (some ⟨b1, 0, none⟩) n 3 1 n ((fillR v n kk).flatMap eInt) :: row (some ⟨xb, 0, none⟩) 1 3 1 1 [.int .i64 v] :: F) (fun kk => n - kk) (0 + 1) ⟨by omega, by omega⟩ ⟨rfl, rfl, trivial⟩ (fun _ hs => by have h1 := ((hs.pull (.there .here)).pull (.there .here)); exact h1) ?_
  intro kk hI
  refine Cd.seq ?_
  refine Cd.seq ?_
  refine Cd.region ?_
  refine Ops.q (q_mv rfl) ?_
  refine Ops.q (q_mv rfl) ?_
  refine Ops.q (q_len esz_26 rfl) ?_
  by_cases hk : (kk : Int) < (n : Int)
  · refine Ops.q (q_cmp rfl rfl (c_lt hk)) ?_
    refine Ops.to rfl ?_
    refine Cd.cond_t rfl ?_
    refine Cd.skipTo rfl ?_
    refine Cd.block ?_
    refine Cd.draw rfl (by kernel_rfl) .nil ?_
    intro F2 St3 hP4 hF5 hR6
    refine Dr.q (i := 0) hP4 rfl (by kernel_rfl) (q_mv rfl) ?_
    refine Dr.q (i := 1) hP4 rfl (by kernel_rfl) (q_mv rfl) ?_
    refine Dr.q (i := 2) hP4 rfl (by kernel_rfl) (q_mv rfl) ?_
    refine Dr.q (i := 3) hP4 rfl (by kernel_rfl) (q_cutP (k := kk) el_26 sz_3 rfl rfl (by omega) (by omega)) ?_
    refine Dr.q (i := 4) hP4 rfl (by kernel_rfl) (q_mv rfl) ?_
    refine Dr.q (i := 5) hP4 rfl (by kernel_rfl) (q_mv rfl) ?_
    refine Dr.q (i := 6) hP4 rfl (by kernel_rfl) (q_cutHP (k := kk) el_26 sz_3 rfl rfl (by omega)) ?_
    refine Dr.e (i := 7) rfl (by kernel_rfl) ?_
    refine Ops.cpy (news := (List.replicate (min kk (n - kk)) v).flatMap eInt) (cs' := (fillR v n (kk + (min kk (n - kk)))).flatMap eInt) (k := (min kk (n - kk))) el_26 sz_3 rfl rfl rfl (fun _ hs => by have h1 := hs.ownRo (.there .here); obtain ⟨ds, hds⟩ := fillR_pre v (n := n) (k := kk) (j := (min kk (n - kk))) (by omega); rw [hds] at h1; exact Ro.pre h1) (by rw [fm_length eInt_len, List.length_replicate]) (fm_one eInt_one _) (.there .here) (by rw [fm_length eInt_len, fm_length eInt_len]; simp [fillR]; omega) (fillR_step v (by omega) _ (by omega)) ?_
    refine Dr.back (fun _ hs => hF5 .here hs) ?_
    refine Dr.q (i := 8) hP4 rfl (by kernel_rfl) (q_ar rfl rfl ((by rw [a_add (by omega)]))) ?_
    refine Dr.tail 9 (by kernel_rfl) ?_
    refine Ops.sat ?_ (fun _ hs => hR6 .here hs)
    refine Ops.q (q_asg rfl) ?_
    refine Ops.rnd (kk + min kk (n - kk)) rfl (⟨by omega, by omega⟩) (by omega) ⟨rfl, rfl, trivial⟩ (fun _ hs => ((hs.pull (.there .here)).pull (.there .here))) 
  · refine Ops.q (q_cmp rfl rfl (c_nlt (by omega))) ?_
    refine Ops.to rfl ?_
    refine Cd.cond_f rfl ?_
    refine Cd.exitTo rfl ?_
    refine Cd.seq ?_
    refine Cd.region ?_
    refine Ops.q (q_mv rfl) ?_
    refine Ops.q (q_asg rfl) ?_
    refine Ops.to rfl ?_
    refine Cd.rt (fn := Try.f52) [.slice (some ⟨b1, 0, none⟩) n n] (by with_reducible repeat (first | exact rq_here | apply rq_then | apply rq_block)) rfl ⟨rfl, trivial⟩ ?_
    intro w' hs'
    rw [fillR_full v (show kk = n by omega)] at hs'
    exact ⟨(some ⟨b1, 0, none⟩, n), rfl, ((hs'.pull (.there .here)).pull (.there .here))⟩
end Go.Proofs.Ytilcdghliigngaa
namespace Go.Proofs.Ytilcdghliigngaa
open Go.RowKit Go.Proofs.YtilcdghliigngaaGl Go.Proofs.YtilcdghliigngaaPm
set_option linter.unusedVariables false
set_option linter.unusedSimpArgs false
def pathsP (n : Int) (es : List Edg) (s : Int) : Except Int NetP :=
  if graphE n es ≠ 0 then .error (graphE n es)
  else if wi s 0 (n - 1) then .ok ⟨(List.replicate n.toNat (1 : Int)).map (setTh (onceP 0)), 1, ([⟨-1, s, 1, 1⟩] ++ selvesFrom 0 n.toNat) ++ es.map fun e => ⟨e.src, e.dst, 1, e.len⟩⟩
  else .error 4
theorem graph_ok {n : Int} {es : List Edg} (h : graphE n es = 0) : wi n 1 512 ∧ es.length ≤ 4096 ∧ ∀ e ∈ es, edgeE n e = 0 := by
  unfold graphE at h
  split at h
  · rename_i h1
    split at h
    · cases h
    · exact ⟨h1, by omega, firstE_zero h⟩
  · cases h
theorem repeat_l (xb : Nat) (v : Int) (n : Nat) (w0 w : World) (F : List Atom) (hn : 1 ≤ n ∧ n ≤ 100000) (hs : Sat w0 w (row (some ⟨xb, 0, none⟩) 1 3 1 1 [.int .i64 v] :: F)) : Calls Try.prog 52 [.slice (some ⟨xb, 0, none⟩) 1 1, .int .i64 (n : Int)].toArray w fun e w' => ∃ p : Option Addr × Nat, e = .returned (.slice p.1 (List.replicate n v).length p.2) ∧ Sat w0 w' (row p.1 p.2 3 1 (List.replicate n v).length ((List.replicate n v).flatMap eInt) :: row (some ⟨xb, 0, none⟩) 1 3 1 1 [.int .i64 v] :: F) := by
  rw [List.length_replicate]; exact repeat_c xb v n w0 w F hn hs
theorem mapT {α β : Type} (f : α → β) {xs : List α} {j : Nat} {x : α} (hx : xs[j]? = some x) : (xs.take (j + 1)).map f = (xs.take j).map f ++ [f x] := by
  rw [List.take_add_one, hx, List.map_append]; rfl
theorem paths_c (n : Int) (ea : Option Addr) (ec : Nat) (es : List Edg) (so : Int) (w : World) (hE : RoL w ea eEdge es) : Calls Try.prog 34 [.int .i64 n, .slice ea es.length ec, .int .i64 so].toArray w (RetR (pathsP n es so) w) := by
  refine fstart Try.func34 rfl rfl (Sat.nil w) ?_
  refine Cd.seq ?_
  refine Cd.region ?_
  refine Ops.alc [.slice none 0 0, .int .i64 0, .slice none 0 0] zc_32 ?_
  intro b1
  refine Ops.q (q_asg rfl) ?_
  refine Ops.to rfl ?_
  refine Cd.seq ?_
  refine Cd.seq ?_
  refine Cd.region ?_
  refine Ops.q (q_mv rfl) ?_
  refine Ops.q (q_mv rfl) ?_
  refine Ops.cp en_71 rfl (fun w hs => checkGraph_c n _ _ es w (hE.later hs.below)) ?_
  refine Ops.q (q_asg rfl) ?_
  refine Ops.to rfl ?_
  refine Cd.seq ?_
  refine Cd.region ?_
  refine Ops.q (q_mv rfl) ?_
  by_cases h2 : graphE n es = 0
  · refine Ops.q (q_cmp rfl rfl (c_nne h2)) ?_
    obtain ⟨hn1, hel, hee⟩ := graph_ok h2
    obtain ⟨m, rfl⟩ : ∃ j : Nat, n = (j : Int) := ⟨n.toNat, by unfold wi at hn1; omega⟩
    have hm : 1 ≤ m ∧ m ≤ 512 := by unfold wi at hn1; omega
    refine Ops.to rfl ?_
    refine Cd.cond_f rfl ?_
    refine Cd.skipTo rfl ?_
    refine Cd.seq ?_
    refine Cd.seq ?_
    refine Cd.region ?_
    refine Ops.q (q_mv rfl) ?_
    refine Ops.q (q_mv rfl) ?_
    refine Ops.q (q_ar rfl rfl (a_sub (by omega))) ?_
    by_cases h3 : wi so 0 ((m : Int) - 1)
    · refine Ops.cp en_57 rfl (fun w hs => dT (in_c _ _ _ w) h3) ?_
      refine Ops.q (q_not rfl) ?_
      refine Ops.to rfl ?_
      refine Cd.cond_f rfl ?_
      refine Cd.skipTo rfl ?_
      refine Cd.seq ?_
      refine Cd.region ?_
      refine Ops.q (q_bld [.slice none 0 0, .int .i64 1, .slice none 0 0] pls_32 zc_32 rfl rfl) ?_
      refine Ops.q (q_bld [.slice none 0 0, .int .i64 1, .slice none 0 0] pls_114 zc_114 rfl rfl) ?_
      refine Ops.alc [.slice none 0 0, .int .i64 0, .slice none 0 0] zc_114 ?_
      intro b4
      refine Ops.stB [.slice none 0 0, .int .i64 1, .slice none 0 0] [.slice none 0 0, .int .i64 1, .slice none 0 0] sz_114 rfl rfl rfl (one rfl) .here rfl rfl ?_
      refine Ops.to rfl ?_
      refine Cd.seq ?_
      refine Cd.nilRow 126 4 ?_
      refine Cd.nilRow 116 8 ?_
      change Cd _ _ _ _ _ _ _ _ ([row none 0 116 8 (([] : List Prm).length) (([] : List Prm).flatMap ePrm), row none 0 126 4 (([] : List Syn).length) (([] : List Syn).flatMap eSyn), blk b4 114 [.slice none (([] : List Prm).length) 0, .int .i64 1, .slice none (([] : List Syn).length) 0], blk b1 32 [.slice none 0 0, .int .i64 0, .slice none 0 0]])
      refine Cd.region ?_
      refine Ops.cp en_60 rfl (fun w hs => once_c w) ?_
      refine Ops.cl (α := Nat × Nat) (v := fun x => .func (.func 86) #[] #[.pointer (some ⟨x.1, 0, none⟩), .pointer (some ⟨x.2, 0, none⟩)]) (B := fun x => [blk x.1 116 (ePrm (onceP 0)), blk x.2 161 [.pointer (some ⟨b4, 0, none⟩)]]) en_49 rfl (fun w hs => grow_c b4 (onceP 0) w) ?_
      rintro ⟨pb5, bb6⟩
      refine Ops.lit [.int .i64 1] el_26 zsb_3 rfl rfl ⟨by decide, by decide⟩ rfl ?_
      intro b7
      refine Ops.q (q_mv rfl) ?_
      refine Ops.cm (α := Option Addr × Nat) (v := fun p => .slice p.1 (List.replicate m (1 : Int)).length p.2) (A' := fun p => row p.1 p.2 3 1 (List.replicate m (1 : Int)).length ((List.replicate m (1 : Int)).flatMap eInt) :: [row (some ⟨b7, 0, none⟩) 1 3 1 1 [.int .i64 1], blk pb5 116 (ePrm (onceP 0)), blk bb6 161 [.pointer (some ⟨b4, 0, none⟩)], row none 0 116 8 (([] : List Prm).length) (([] : List Prm).flatMap ePrm), row none 0 126 4 (([] : List Syn).length) (([] : List Syn).flatMap eSyn), blk b4 114 [.slice none (([] : List Prm).length) 0, .int .i64 1, .slice none (([] : List Syn).length) 0], blk b1 32 [.slice none 0 0, .int .i64 0, .slice none 0 0]]) en_52 rfl (fun w hs => repeat_l b7 1 m _ w _ (by omega) ((((((((hs.pull (.there (.there (.there (.there (.there (.there .here))))))).pull (.there (.there (.there (.there (.there (.there .here))))))).pull (.there (.there (.there (.there (.there (.there .here))))))).pull (.there (.there (.there (.there (.there (.there .here))))))).pull (.there (.there (.there (.there (.there (.there .here))))))).pull (.there (.there (.there (.there (.there (.there .here))))))).pull (.there (.there (.there (.there (.there (.there .here))))))))) ?_
      rintro ⟨a8, c9⟩
      refine Ops.cv (α := Option Addr × Nat) (k := 86) (first := []) (caps := [.pointer (some ⟨pb5, 0, none⟩), .pointer (some ⟨bb6, 0, none⟩)]) (vs := [.slice a8 ((List.replicate m (1 : Int)).length) c9]) (v := fun _ => .tuple #[]) (A' := fun p => [blk b4 114 [.slice p.1 ((([] : List Prm) ++ (List.replicate m (1 : Int)).map (setTh (onceP 0))).length) p.2, .int .i64 1, .slice none (([] : List Syn).length) 0], row p.1 p.2 116 8 ((([] : List Prm) ++ (List.replicate m (1 : Int)).map (setTh (onceP 0))).length) ((([] : List Prm) ++ (List.replicate m (1 : Int)).map (setTh (onceP 0))).flatMap ePrm), row none 0 126 4 (([] : List Syn).length) (([] : List Syn).flatMap eSyn), blk pb5 116 (ePrm (onceP 0)), blk bb6 161 [.pointer (some ⟨b4, 0, none⟩)], row a8 c9 3 1 ((List.replicate m (1 : Int)).length) ((List.replicate m (1 : Int)).flatMap eInt), row (some ⟨b7, 0, none⟩) 1 3 1 1 [.int .i64 1], blk b1 32 [.slice none 0 0, .int .i64 0, .slice none 0 0]]) en_86 rfl rfl (fun w hs => grown_c b4 _ _ _ _ ([] : List Prm) _ ([] : List Syn) pb5 bb6 _ _ (List.replicate m (1 : Int)) _ _ w _ (by simp only [List.length_nil, List.length_replicate]; omega) (((((((((hs.pull (.there (.there (.there (.there (.there (.there (.there .here)))))))).pull (.there (.there .here))).pull (.there (.there .here))).pull (.there (.there (.there (.there .here))))).pull (.there (.there (.there (.there .here))))).pull (.there (.there (.there (.there (.there (.there .here))))))).pull (.there (.there (.there (.there (.there (.there .here))))))).pull (.there (.there (.there (.there (.there (.there (.there .here)))))))))) ?_
      rintro ⟨a10, c11⟩
      refine Ops.to rfl ?_
      refine Cd.seq ?_
      refine Cd.region ?_
      refine Ops.q (q_mv rfl) ?_
      refine Ops.cm (α := Option Addr × Nat) (v := fun _ => .tuple #[]) (A' := fun p => [blk b4 114 [.slice a10 ((([] : List Prm) ++ (List.replicate m (1 : Int)).map (setTh (onceP 0))).length) c11, .int .i64 1, .slice p.1 ((([] : List Syn) ++ [(⟨-1 - 0, so, 1, 1⟩ : Syn)]).length) p.2], row a10 c11 116 8 ((([] : List Prm) ++ (List.replicate m (1 : Int)).map (setTh (onceP 0))).length) ((([] : List Prm) ++ (List.replicate m (1 : Int)).map (setTh (onceP 0))).flatMap ePrm), row p.1 p.2 126 4 ((([] : List Syn) ++ [(⟨-1 - 0, so, 1, 1⟩ : Syn)]).length) ((([] : List Syn) ++ [(⟨-1 - 0, so, 1, 1⟩ : Syn)]).flatMap eSyn), blk pb5 116 (ePrm (onceP 0)), blk bb6 161 [.pointer (some ⟨b4, 0, none⟩)], row a8 c9 3 1 ((List.replicate m (1 : Int)).length) ((List.replicate m (1 : Int)).flatMap eInt), row (some ⟨b7, 0, none⟩) 1 3 1 1 [.int .i64 1], blk b1 32 [.slice none 0 0, .int .i64 0, .slice none 0 0]]) en_51 rfl (fun w hs => feed_c _ _ _ _ _ (([] : List Prm) ++ (List.replicate m (1 : Int)).map (setTh (onceP 0))) _ ([] : List Syn) 0 so 1 1 _ w _ (by simp) (by omega) (((((((((hs.pull (.there (.there (.there (.there (.there (.there (.there .here)))))))).pull (.there (.there (.there (.there (.there (.there (.there .here)))))))).pull (.there (.there (.there (.there (.there (.there (.there .here)))))))).pull (.there (.there (.there (.there (.there (.there (.there .here)))))))).pull (.there (.there (.there (.there (.there (.there (.there .here)))))))).pull (.there (.there (.there (.there (.there (.there (.there .here)))))))).pull (.there (.there (.there (.there (.there (.there (.there .here)))))))).pull (.there (.there (.there (.there (.there (.there (.there .here)))))))))) ?_
      rintro ⟨a12, c13⟩
      refine Ops.to rfl ?_
      refine Cd.seq ?_
      refine Cd.region ?_
      refine Ops.cm (α := Option Addr × Nat) (v := fun _ => .tuple #[]) (A' := fun p => [blk b4 114 [.slice a10 ((([] : List Prm) ++ (List.replicate m (1 : Int)).map (setTh (onceP 0))).length) c11, .int .i64 1, .slice p.1 (((([] : List Syn) ++ [(⟨-1 - 0, so, 1, 1⟩ : Syn)]) ++ selvesFrom 0 (([] : List Prm) ++ (List.replicate m (1 : Int)).map (setTh (onceP 0))).length).length) p.2], row a10 c11 116 8 ((([] : List Prm) ++ (List.replicate m (1 : Int)).map (setTh (onceP 0))).length) ((([] : List Prm) ++ (List.replicate m (1 : Int)).map (setTh (onceP 0))).flatMap ePrm), row p.1 p.2 126 4 (((([] : List Syn) ++ [(⟨-1 - 0, so, 1, 1⟩ : Syn)]) ++ selvesFrom 0 (([] : List Prm) ++ (List.replicate m (1 : Int)).map (setTh (onceP 0))).length).length) (((([] : List Syn) ++ [(⟨-1 - 0, so, 1, 1⟩ : Syn)]) ++ selvesFrom 0 (([] : List Prm) ++ (List.replicate m (1 : Int)).map (setTh (onceP 0))).length).flatMap eSyn), blk pb5 116 (ePrm (onceP 0)), blk bb6 161 [.pointer (some ⟨b4, 0, none⟩)], row a8 c9 3 1 ((List.replicate m (1 : Int)).length) ((List.replicate m (1 : Int)).flatMap eInt), row (some ⟨b7, 0, none⟩) 1 3 1 1 [.int .i64 1], blk b1 32 [.slice none 0 0, .int .i64 0, .slice none 0 0]]) en_61 rfl (fun w hs => selves_c _ _ _ _ _ (([] : List Prm) ++ (List.replicate m (1 : Int)).map (setTh (onceP 0))) _ (([] : List Syn) ++ [(⟨-1 - 0, so, 1, 1⟩ : Syn)]) _ w _ (by simp) (by simp only [List.length_append, List.length_map, List.length_replicate, List.length_nil]; omega) (((((((((hs.pull (.there (.there (.there (.there (.there (.there (.there .here)))))))).pull (.there (.there (.there (.there (.there (.there (.there .here)))))))).pull (.there (.there (.there (.there (.there (.there (.there .here)))))))).pull (.there (.there (.there (.there (.there (.there (.there .here)))))))).pull (.there (.there (.there (.there (.there (.there (.there .here)))))))).pull (.there (.there (.there (.there (.there (.there (.there .here)))))))).pull (.there (.there (.there (.there (.there (.there (.there .here)))))))).pull (.there (.there (.there (.there (.there (.there (.there .here)))))))))) ?_
      rintro ⟨a14, c15⟩
      refine Ops.to rfl ?_
      refine Cd.seq ?_
      refine Cd.seq ?_
      refine Cd.region ?_
      refine Ops.q (q_mv rfl) ?_
      refine Ops.q (q_len esz_80 rfl) ?_
      refine Ops.q (q_mv rfl) ?_
      refine Ops.to rfl ?_
      refine Cd.block ?_
      refine Cd.lp (σ := Nat × Option Addr × Nat) (fun s => s.1 ≤ es.length) (fun s => [(6, .pointer (some ⟨b1, 0, none⟩)), (9, .pointer (some ⟨b4, 0, none⟩)), (36, .slice ea es.length ec), (37, .int .i64 (es.length : Int)), (38, .int .i64 (s.1 : Int))]) (fun s => [blk b4 114 [.slice a10 ((([] : List Prm) ++ (List.replicate m (1 : Int)).map (setTh (onceP 0))).length) c11, .int .i64 1, .slice s.2.1 ((((([] : List Syn) ++ [(⟨-1 - 0, so, 1, 1⟩ : Syn)]) ++ selvesFrom 0 (([] : List Prm) ++ (List.replicate m (1 : Int)).map (setTh (onceP 0))).length) ++ (es.take s.1).map (fun e : Edg => (⟨e.src, e.dst, 1, e.len⟩ : Syn))).length) s.2.2], row a10 c11 116 8 ((([] : List Prm) ++ (List.replicate m (1 : Int)).map (setTh (onceP 0))).length) ((([] : List Prm) ++ (List.replicate m (1 : Int)).map (setTh (onceP 0))).flatMap ePrm), row s.2.1 s.2.2 126 4 ((((([] : List Syn) ++ [(⟨-1 - 0, so, 1, 1⟩ : Syn)]) ++ selvesFrom 0 (([] : List Prm) ++ (List.replicate m (1 : Int)).map (setTh (onceP 0))).length) ++ (es.take s.1).map (fun e : Edg => (⟨e.src, e.dst, 1, e.len⟩ : Syn))).length) ((((([] : List Syn) ++ [(⟨-1 - 0, so, 1, 1⟩ : Syn)]) ++ selvesFrom 0 (([] : List Prm) ++ (List.replicate m (1 : Int)).map (setTh (onceP 0))).length) ++ (es.take s.1).map (fun e : Edg => (⟨e.src, e.dst, 1, e.len⟩ : Syn))).flatMap eSyn), blk b1 32 [.slice none 0 0, .int .i64 0, .slice none 0 0]]) (fun s => es.length - s.1) (0, a14, c15) (Nat.zero_le _) ⟨rfl, rfl, rfl, rfl, rfl, trivial⟩ (fun _ hs => by have h1 := ((((((((hs.pull (.there (.there (.there (.there (.there (.there (.there .here)))))))).pull (.there (.there (.there .here)))).pull (.there (.there (.there .here)))).pull (.there (.there (.there .here)))).pull (.there (.there (.there (.there .here))))).drop.pull (.there (.there (.there (.there .here))))).drop.pull (.there (.there (.there (.there .here))))).drop.pull (.there (.there (.there (.there .here))))).drop; dsimp only; rw [show ((([] : List Syn) ++ [(⟨-1 - 0, so, 1, 1⟩ : Syn)]) ++ selvesFrom 0 (([] : List Prm) ++ (List.replicate m (1 : Int)).map (setTh (onceP 0))).length) ++ (es.take 0).map (fun e : Edg => (⟨e.src, e.dst, 1, e.len⟩ : Syn)) = ((([] : List Syn) ++ [(⟨-1 - 0, so, 1, 1⟩ : Syn)]) ++ selvesFrom 0 (([] : List Prm) ++ (List.replicate m (1 : Int)).map (setTh (onceP 0))).length) from List.append_nil _]; exact h1) ?_
      rintro ⟨k, qa, qc⟩ hI
      dsimp only at hI
      change Cd _ _ _ _ _ _ _ [(6, .pointer (some ⟨b1, 0, none⟩)), (9, .pointer (some ⟨b4, 0, none⟩)), (36, .slice ea es.length ec), (37, .int .i64 (es.length : Int)), (38, .int .i64 (k : Int))] ([blk b4 114 [.slice a10 ((([] : List Prm) ++ (List.replicate m (1 : Int)).map (setTh (onceP 0))).length) c11, .int .i64 1, .slice qa ((((([] : List Syn) ++ [(⟨-1 - 0, so, 1, 1⟩ : Syn)]) ++ selvesFrom 0 (([] : List Prm) ++ (List.replicate m (1 : Int)).map (setTh (onceP 0))).length) ++ (es.take k).map (fun e : Edg => (⟨e.src, e.dst, 1, e.len⟩ : Syn))).length) qc], row a10 c11 116 8 ((([] : List Prm) ++ (List.replicate m (1 : Int)).map (setTh (onceP 0))).length) ((([] : List Prm) ++ (List.replicate m (1 : Int)).map (setTh (onceP 0))).flatMap ePrm), row qa qc 126 4 ((((([] : List Syn) ++ [(⟨-1 - 0, so, 1, 1⟩ : Syn)]) ++ selvesFrom 0 (([] : List Prm) ++ (List.replicate m (1 : Int)).map (setTh (onceP 0))).length) ++ (es.take k).map (fun e : Edg => (⟨e.src, e.dst, 1, e.len⟩ : Syn))).length) ((((([] : List Syn) ++ [(⟨-1 - 0, so, 1, 1⟩ : Syn)]) ++ selvesFrom 0 (([] : List Prm) ++ (List.replicate m (1 : Int)).map (setTh (onceP 0))).length) ++ (es.take k).map (fun e : Edg => (⟨e.src, e.dst, 1, e.len⟩ : Syn))).flatMap eSyn), blk b1 32 [.slice none 0 0, .int .i64 0, .slice none 0 0]])
      refine Cd.seq ?_
      refine Cd.region ?_
      by_cases hk : (k : Int) < (es.length : Int)
      · refine Ops.q (q_cmp rfl rfl (c_lt hk)) ?_
        obtain ⟨x16, hx17⟩ : ∃ x, es[k]? = some x := ⟨_, List.getElem?_eq_getElem (by omega)⟩
        obtain ⟨ab18, ao19, rfl⟩ := RoL.pos hE eEdge_len hx17
        refine Ops.to rfl ?_
        refine Cd.seq ?_
        refine Cd.cond_t rfl ?_
        refine Cd.skipTo rfl ?_
        refine Cd.seq ?_
        refine Cd.block ?_
        refine Cd.seq ?_
        refine Cd.region ?_
        refine Ops.q (q_ix (k := k) esz_80 rfl rfl (by omega)) ?_
        refine Ops.q (q_ldRN [.int .i64 x16.src, .int .i64 x16.dst, .int .i64 x16.len] isA_82 sz_82 rfl (fun j u hu => hE.at eEdge_len hx17 hu)) ?_
        refine Ops.alc [.int .i64 0, .int .i64 0, .int .i64 0] zc_82 ?_
        intro b20
        refine Ops.stB [.int .i64 x16.src, .int .i64 x16.dst, .int .i64 x16.len] [.int .i64 x16.src, .int .i64 x16.dst, .int .i64 x16.len] sz_82 rfl rfl rfl (one rfl) .here rfl rfl ?_
        refine Ops.to rfl ?_
        refine Cd.region ?_
        refine Ops.q (q_fa fo_82_0 rfl) ?_
        refine Ops.q (q_ldB isA_3 rfl .here rfl) ?_
        refine Ops.q (q_fa fo_82_1 rfl) ?_
        refine Ops.q (q_ldB isA_3 rfl .here rfl) ?_
        refine Ops.q (q_fa fo_82_2 rfl) ?_
        refine Ops.q (q_ldB isA_3 rfl .here rfl) ?_
        refine Ops.cm (α := Option Addr × Nat) (v := fun _ => .tuple #[]) (A' := fun p => [blk b4 114 [.slice a10 ((([] : List Prm) ++ (List.replicate m (1 : Int)).map (setTh (onceP 0))).length) c11, .int .i64 1, .slice p.1 (((((([] : List Syn) ++ [(⟨-1 - 0, so, 1, 1⟩ : Syn)]) ++ selvesFrom 0 (([] : List Prm) ++ (List.replicate m (1 : Int)).map (setTh (onceP 0))).length) ++ (es.take k).map (fun e : Edg => (⟨e.src, e.dst, 1, e.len⟩ : Syn))) ++ [(⟨x16.src, x16.dst, 1, x16.len⟩ : Syn)]).length) p.2], row a10 c11 116 8 ((([] : List Prm) ++ (List.replicate m (1 : Int)).map (setTh (onceP 0))).length) ((([] : List Prm) ++ (List.replicate m (1 : Int)).map (setTh (onceP 0))).flatMap ePrm), row p.1 p.2 126 4 (((((([] : List Syn) ++ [(⟨-1 - 0, so, 1, 1⟩ : Syn)]) ++ selvesFrom 0 (([] : List Prm) ++ (List.replicate m (1 : Int)).map (setTh (onceP 0))).length) ++ (es.take k).map (fun e : Edg => (⟨e.src, e.dst, 1, e.len⟩ : Syn))) ++ [(⟨x16.src, x16.dst, 1, x16.len⟩ : Syn)]).length) (((((([] : List Syn) ++ [(⟨-1 - 0, so, 1, 1⟩ : Syn)]) ++ selvesFrom 0 (([] : List Prm) ++ (List.replicate m (1 : Int)).map (setTh (onceP 0))).length) ++ (es.take k).map (fun e : Edg => (⟨e.src, e.dst, 1, e.len⟩ : Syn))) ++ [(⟨x16.src, x16.dst, 1, x16.len⟩ : Syn)]).flatMap eSyn), blk b20 82 [.int .i64 x16.src, .int .i64 x16.dst, .int .i64 x16.len], blk b1 32 [.slice none 0 0, .int .i64 0, .slice none 0 0]]) en_50 rfl (fun w hs => join_c _ _ _ _ _ (([] : List Prm) ++ (List.replicate m (1 : Int)).map (setTh (onceP 0))) _ (((([] : List Syn) ++ [(⟨-1 - 0, so, 1, 1⟩ : Syn)]) ++ selvesFrom 0 (([] : List Prm) ++ (List.replicate m (1 : Int)).map (setTh (onceP 0))).length) ++ (es.take k).map (fun e : Edg => (⟨e.src, e.dst, 1, e.len⟩ : Syn))) x16.src x16.dst 1 x16.len _ w _ (by simp only [List.length_append, List.length_map, List.length_replicate, List.length_nil, List.length_cons, List.length_take, selves_len]; omega) ((((((hs.pull (.there (.there (.there (.there .here))))).pull (.there .here)).pull (.there (.there (.there (.there .here))))).pull (.there (.there (.there (.there .here))))).pull (.there (.there (.there (.there .here))))))) ?_
        rintro ⟨a21, c22⟩
        refine Ops.to rfl ?_
        refine Cd.region ?_
        refine Ops.q (q_ar rfl rfl (a_inc (by omega))) ?_
        refine Ops.q (q_mv rfl) ?_
        refine Ops.rnd ((k + 1, a21, c22)) rfl (by dsimp only; exact (by omega)) (by dsimp only; omega) ⟨rfl, rfl, rfl, rfl, rfl, trivial⟩ (fun _ hs => by have h1 := (((((hs.pull (.there (.there (.there (.there .here))))).pull (.there (.there (.there .here)))).pull (.there (.there (.there .here)))).pull (.there (.there (.there .here)))).pull (.there (.there (.there (.there .here))))).drop; dsimp only; rw [mapT _ hx17, ← List.append_assoc]; exact h1) 
      · refine Ops.q (q_cmp rfl rfl (c_nlt (by omega))) ?_
        refine Ops.to rfl ?_
        refine Cd.seq ?_
        refine Cd.cond_f rfl ?_
        refine Cd.exitTo rfl ?_
        refine Cd.seq ?_
        refine Cd.region ?_
        refine Ops.q (q_fa fo_114_0 rfl) ?_
        refine Ops.q (q_ldBN [.slice a10 ((([] : List Prm) ++ (List.replicate m (1 : Int)).map (setTh (onceP 0))).length) c11, .int .i64 1, .slice qa ((((([] : List Syn) ++ [(⟨-1 - 0, so, 1, 1⟩ : Syn)]) ++ selvesFrom 0 (([] : List Prm) ++ (List.replicate m (1 : Int)).map (setTh (onceP 0))).length) ++ (es.take k).map (fun e : Edg => (⟨e.src, e.dst, 1, e.len⟩ : Syn))).length) qc] isA_32 sz_32 rfl .here rfl) ?_
        refine Ops.stB [.slice a10 ((([] : List Prm) ++ (List.replicate m (1 : Int)).map (setTh (onceP 0))).length) c11, .int .i64 1, .slice qa ((((([] : List Syn) ++ [(⟨-1 - 0, so, 1, 1⟩ : Syn)]) ++ selvesFrom 0 (([] : List Prm) ++ (List.replicate m (1 : Int)).map (setTh (onceP 0))).length) ++ (es.take k).map (fun e : Edg => (⟨e.src, e.dst, 1, e.len⟩ : Syn))).length) qc] [.slice a10 ((([] : List Prm) ++ (List.replicate m (1 : Int)).map (setTh (onceP 0))).length) c11, .int .i64 1, .slice qa ((((([] : List Syn) ++ [(⟨-1 - 0, so, 1, 1⟩ : Syn)]) ++ selvesFrom 0 (([] : List Prm) ++ (List.replicate m (1 : Int)).map (setTh (onceP 0))).length) ++ (es.take k).map (fun e : Edg => (⟨e.src, e.dst, 1, e.len⟩ : Syn))).length) qc] sz_32 rfl rfl rfl (one rfl) (.there (.there (.there .here))) rfl rfl ?_
        refine Ops.q (q_asg rfl) ?_
        refine Ops.to rfl ?_
        refine Cd.rt (fn := Try.f34) [.agg [.slice a10 ((([] : List Prm) ++ (List.replicate m (1 : Int)).map (setTh (onceP 0))).length) c11, .int .i64 1, .slice qa ((((([] : List Syn) ++ [(⟨-1 - 0, so, 1, 1⟩ : Syn)]) ++ selvesFrom 0 (([] : List Prm) ++ (List.replicate m (1 : Int)).map (setTh (onceP 0))).length) ++ (es.take k).map (fun e : Edg => (⟨e.src, e.dst, 1, e.len⟩ : Syn))).length) qc].toArray, .int .i64 0] (by with_reducible repeat (first | exact rq_here | apply rq_then | apply rq_block)) rfl ⟨⟨_, _, rfl, fun _ hs => run_loadN isA_32 sz_32 (fun o u hu => Sat.atB (.there (.there (.there .here))) (by rw [Nat.zero_add]; exact hu) hs)⟩, rfl, trivial⟩ ?_
        intro w' hs'
        rw [List.take_of_length_le (by omega)] at hs'
        have hP : pathsP (m : Int) es so = .ok ⟨(([] : List Prm) ++ (List.replicate m (1 : Int)).map (setTh (onceP 0))), 1, (((([] : List Syn) ++ [(⟨-1 - 0, so, 1, 1⟩ : Syn)]) ++ selvesFrom 0 (([] : List Prm) ++ (List.replicate m (1 : Int)).map (setTh (onceP 0))).length) ++ es.map (fun e : Edg => (⟨e.src, e.dst, 1, e.len⟩ : Syn)))⟩ := by unfold pathsP; rw [if_neg (by simpa using h2), if_pos h3, Int.toNat_natCast, List.nil_append, List.nil_append, List.length_map, List.length_replicate]; rfl
        rw [hP]
        exact ⟨(a10, c11), (qa, qc), by rw [List.take_of_length_le (show es.length ≤ k by omega)]; rfl, ((((hs'.pull (.there (.there .here))).pull (.there (.there .here))).pull (.there (.there .here))).drop.pull (.there (.there .here))).drop⟩
    · refine Ops.cp en_57 rfl (fun w hs => dF (in_c _ _ _ w) h3) ?_
      refine Ops.q (q_not rfl) ?_
      refine Ops.to rfl ?_
      refine Cd.cond_t rfl ?_
      refine Cd.seq ?_
      refine Cd.region ?_
      refine Ops.q (q_bld [.slice none 0 0, .int .i64 0, .slice none 0 0] pls_32 zc_32 rfl rfl) ?_
      refine Ops.stB [.slice none 0 0, .int .i64 0, .slice none 0 0] [.slice none 0 0, .int .i64 0, .slice none 0 0] sz_32 rfl rfl rfl (one rfl) .here rfl rfl ?_
      refine Ops.q (q_asg rfl) ?_
      refine Ops.to rfl ?_
      refine Cd.rt (fn := Try.f34) [.agg [.slice none 0 0, .int .i64 0, .slice none 0 0].toArray, .int .i64 4] (by with_reducible repeat (first | exact rq_here | apply rq_then | apply rq_block)) rfl ⟨⟨_, _, rfl, fun _ hs => run_loadN isA_32 sz_32 (fun o u hu => Sat.atB .here (by rw [Nat.zero_add]; exact hu) hs)⟩, rfl, trivial⟩ ?_
      intro w' hs'
      rw [show pathsP (m : Int) es so = .error 4 by unfold pathsP; rw [if_neg (by simpa using h2), if_neg h3]]
      exact ⟨rfl, hs'.none⟩
  · refine Ops.q (q_cmp rfl rfl (c_ne h2)) ?_
    refine Ops.to rfl ?_
    refine Cd.cond_t rfl ?_
    refine Cd.seq ?_
    refine Cd.region ?_
    refine Ops.q (q_bld [.slice none 0 0, .int .i64 0, .slice none 0 0] pls_32 zc_32 rfl rfl) ?_
    refine Ops.q (q_mv rfl) ?_
    refine Ops.stB [.slice none 0 0, .int .i64 0, .slice none 0 0] [.slice none 0 0, .int .i64 0, .slice none 0 0] sz_32 rfl rfl rfl (one rfl) .here rfl rfl ?_
    refine Ops.q (q_asg rfl) ?_
    refine Ops.to rfl ?_
    refine Cd.rt (fn := Try.f34) [.agg [.slice none 0 0, .int .i64 0, .slice none 0 0].toArray, .int .i64 (graphE n es)] (by with_reducible repeat (first | exact rq_here | apply rq_then | apply rq_block)) rfl ⟨⟨_, _, rfl, fun _ hs => run_loadN isA_32 sz_32 (fun o u hu => Sat.atB .here (by rw [Nat.zero_add]; exact hu) hs)⟩, rfl, trivial⟩ ?_
    intro w' hs'
    rw [show pathsP n es so = .error (graphE n es) by unfold pathsP; rw [if_pos h2]]
    exact ⟨rfl, hs'.none⟩
end Go.Proofs.Ytilcdghliigngaa
namespace Go.Proofs.Ytilcdghliigngaa
open Go.RowKit Go.Proofs.YtilcdghliigngaaGl Go.Proofs.YtilcdghliigngaaPm
set_option linter.unusedVariables false
set_option linter.unusedSimpArgs false
def backI {α : Type} (xs : List α) : List (Int × α) := (xs.zipIdx.map fun p => ((p.2 : Int), p.1)).reverse
theorem backI_length {α : Type} (xs : List α) : (backI xs).length = xs.length := by simp [backI]
theorem backI_get {α : Type} {xs : List α} {j : Nat} {x : α} (hj : j < xs.length) (hx : xs[xs.length - 1 - j]? = some x) : (backI xs)[j]? = some ((xs.length : Int) - 1 - (j : Int), x) := by
  unfold backI
  rw [List.getElem?_reverse (by simpa using hj)]
  simp only [List.length_map, List.length_zipIdx, List.getElem?_map, List.getElem?_zipIdx, hx, Option.map_some]
  congr 2
  omega
theorem backI_take {α : Type} {xs : List α} {j : Nat} {x : Int × α} (h : (backI xs)[j]? = some x) : (backI xs).take (j + 1) = (backI xs).take j ++ [x] := by
  rw [List.take_add_one, h]; rfl
theorem backI_post {α : Type} {xs : List α} {j : Nat} {x : Int × α} (h : (backI xs)[j]? = some x) : ∃ post, (backI xs).take j ++ x :: post = backI xs := by
  refine ⟨(backI xs).drop (j + 1), ?_⟩
  rw [← drop_get h, List.take_append_drop]
def argE (p : Int × Evt) : List Value := [.int .i64 p.1, .agg (eEvt p.2).toArray]
def argD (p : Int × Edg) : List Value := [.int .i64 p.1, .agg (eEdge p.2).toArray]
theorem backE_c (xa : Option Addr) (xn xc : Nat) (w : World) : Calls Try.prog 79 [.slice xa xn xc].toArray w fun e w' => ∃ b : Nat, e = .returned (.func (.func 102) #[] #[.pointer (some ⟨b, 0, none⟩)]) ∧ Sat w w' [blk b 27 [.slice xa xn xc]] := by
  refine fstart Try.func79 rfl rfl (Sat.nil w) ?_
  refine Cd.seq ?_
  refine Cd.region ?_
  refine Ops.box [.slice xa xn xc] rfl rfl ?_
  intro b1
  refine Ops.q (q_asg rfl) ?_
  refine Ops.to rfl ?_
  refine Cd.seq ?_
  refine Cd.region ?_
  refine Ops.q (q_mkf rfl rfl) ?_
  refine Ops.q (q_asg rfl) ?_
  refine Ops.to rfl ?_
  refine Cd.rt (fn := Try.f79) [.func (.func 102) #[] #[.pointer (some ⟨b1, 0, none⟩)]] (by with_reducible repeat (first | exact rq_here | apply rq_then | apply rq_block)) rfl ⟨rfl, trivial⟩ ?_
  intro w' hs
  exact ⟨b1, rfl, hs⟩
theorem iter102 (b : Nat) (xa : Option Addr) (xc : Nat) (xs : List Evt) (w0 : World) (hX : RoL w0 xa eEvt xs) (hl : xs.length ≤ 1000000) : Iter Try.prog 102 [.pointer (some ⟨b, 0, none⟩)] argE (backI xs) w0 [blk b 27 [.slice xa xs.length xc]] := by
  intro J l w hy hs
  refine fstart Try.func102 rfl rfl hs ?_
  refine Cd.seq ?_
  refine Cd.region ?_
  refine Ops.q (q_ldB isA_27 rfl (.there .here) rfl) ?_
  refine Ops.q (q_len esz_27 rfl) ?_
  refine Ops.q (q_ar (v := (xs.length : Int) - 1) rfl rfl (a_sub (by omega))) ?_
  refine Ops.q (q_asg rfl) ?_
  refine Ops.to rfl ?_
  refine Cd.block ?_
  refine Cd.lp (σ := Nat) (fun j => j ≤ xs.length) (fun j => [(0, .func (.yield l) #[] #[]), (1, .pointer (some ⟨b, 0, none⟩)), (3, .int .i64 ((xs.length : Int) - 1 - (j : Int)))]) (fun j => [bun (J ((backI xs).take j)), blk b 27 [.slice xa xs.length xc]]) (fun j => xs.length - j) 0 (Nat.zero_le _) ⟨rfl, rfl, (by (try dsimp only); rw [show ((xs.length : Int) - 1 - ((0 : Nat) : Int)) = (xs.length : Int) - 1 by omega]; rfl), trivial⟩ (fun _ hs => hs) ?_
  intro j hI
  refine Cd.seq ?_
  refine Cd.seq ?_
  refine Cd.region ?_
  refine Ops.q (q_mv rfl) ?_
  by_cases hj : 0 ≤ (xs.length : Int) - 1 - (j : Int)
  · refine Ops.q (q_cmp rfl rfl (c_ge hj)) ?_
    have hjl : j < xs.length := by omega
    have hji : (xs.length : Int) - 1 - (j : Int) = ((xs.length - 1 - j : Nat) : Int) := by omega
    obtain ⟨x1, hx2⟩ : ∃ x, xs[xs.length - 1 - j]? = some x := ⟨_, List.getElem?_eq_getElem (by omega)⟩
    obtain ⟨ab3, ao4, rfl⟩ := RoL.pos hX eEvt_len hx2
    have hb := backI_get hjl hx2
    refine Ops.to rfl ?_
    refine Cd.cond_t rfl ?_
    refine Cd.skipTo rfl ?_
    refine Cd.seq ?_
    refine Cd.block ?_
    refine Cd.seq ?_
    refine Cd.region ?_
    refine Ops.q (q_mv rfl) ?_
    refine Ops.q (q_mv rfl) ?_
    refine Ops.q (q_ldB isA_27 rfl (.there .here) rfl) ?_
    refine Ops.q (q_mv rfl) ?_
    refine Ops.q (q_ix (k := xs.length - 1 - j) esz_27 rfl (show some (Value.int .i64 ((xs.length : Int) - 1 - (j : Int))) = some (.int .i64 ((xs.length - 1 - j : Nat) : Int)) from by rw [hji]) (by omega)) ?_
    refine Ops.q (q_ldRN [.int .i64 x1.tick, .int .i64 x1.id] isA_88 sz_88 rfl (fun j u hu => hX.at eEvt_len hx2 hu)) ?_
    refine Ops.yl (vs := argE ((xs.length : Int) - 1 - (j : Int), x1)) rfl rfl (fun w hs => hy _ _ _ w (backI_post hb) (hs.pull .here)) ?_
    refine Ops.q (q_not rfl) ?_
    refine Ops.to rfl ?_
    refine Cd.cond_f rfl ?_
    refine Cd.skipTo rfl ?_
    refine Cd.region ?_
    refine Ops.q (q_mv rfl) ?_
    refine Ops.q (q_ar (v := (xs.length : Int) - 1 - ((j + 1 : Nat) : Int)) rfl rfl ((by rw [a_sub (by omega)]; exact congrArg some (by omega)))) ?_
    refine Ops.q (q_asg rfl) ?_
    refine Ops.rnd (j + 1) rfl (by omega) (by omega) ⟨rfl, rfl, rfl, trivial⟩ (fun _ hs => by (try dsimp only); rw [backI_take hb]; exact hs) 
  · refine Ops.q (q_cmp rfl rfl (c_nge (by omega))) ?_
    refine Ops.to rfl ?_
    refine Cd.cond_f rfl ?_
    refine Cd.exitFin (fn := Try.f102) (by with_reducible repeat (first | exact xq_here | apply xq_then | apply xq_block | apply nq_block)) rfl ?_
    intro w' hs'
    rw [List.take_of_length_le (by rw [backI_length]; omega)] at hs'
    exact ⟨rfl, hs'⟩
theorem backD_c (xa : Option Addr) (xn xc : Nat) (w : World) : Calls Try.prog 80 [.slice xa xn xc].toArray w fun e w' => ∃ b : Nat, e = .returned (.func (.func 103) #[] #[.pointer (some ⟨b, 0, none⟩)]) ∧ Sat w w' [blk b 80 [.slice xa xn xc]] := by
  refine fstart Try.func80 rfl rfl (Sat.nil w) ?_
  refine Cd.seq ?_
  refine Cd.region ?_
  refine Ops.box [.slice xa xn xc] rfl rfl ?_
  intro b1
  refine Ops.q (q_asg rfl) ?_
  refine Ops.to rfl ?_
  refine Cd.seq ?_
  refine Cd.region ?_
  refine Ops.q (q_mkf rfl rfl) ?_
  refine Ops.q (q_asg rfl) ?_
  refine Ops.to rfl ?_
  refine Cd.rt (fn := Try.f80) [.func (.func 103) #[] #[.pointer (some ⟨b1, 0, none⟩)]] (by with_reducible repeat (first | exact rq_here | apply rq_then | apply rq_block)) rfl ⟨rfl, trivial⟩ ?_
  intro w' hs
  exact ⟨b1, rfl, hs⟩
theorem iter103 (b : Nat) (xa : Option Addr) (xc : Nat) (xs : List Edg) (w0 : World) (hX : RoL w0 xa eEdge xs) (hl : xs.length ≤ 1000000) : Iter Try.prog 103 [.pointer (some ⟨b, 0, none⟩)] argD (backI xs) w0 [blk b 80 [.slice xa xs.length xc]] := by
  intro J l w hy hs
  refine fstart Try.func103 rfl rfl hs ?_
  refine Cd.seq ?_
  refine Cd.region ?_
  refine Ops.q (q_ldB isA_80 rfl (.there .here) rfl) ?_
  refine Ops.q (q_len esz_80 rfl) ?_
  refine Ops.q (q_ar (v := (xs.length : Int) - 1) rfl rfl (a_sub (by omega))) ?_
  refine Ops.q (q_asg rfl) ?_
  refine Ops.to rfl ?_
  refine Cd.block ?_
  refine Cd.lp (σ := Nat) (fun j => j ≤ xs.length) (fun j => [(0, .func (.yield l) #[] #[]), (1, .pointer (some ⟨b, 0, none⟩)), (3, .int .i64 ((xs.length : Int) - 1 - (j : Int)))]) (fun j => [bun (J ((backI xs).take j)), blk b 80 [.slice xa xs.length xc]]) (fun j => xs.length - j) 0 (Nat.zero_le _) ⟨rfl, rfl, (by (try dsimp only); rw [show ((xs.length : Int) - 1 - ((0 : Nat) : Int)) = (xs.length : Int) - 1 by omega]; rfl), trivial⟩ (fun _ hs => hs) ?_
  intro j hI
  refine Cd.seq ?_
  refine Cd.seq ?_
  refine Cd.region ?_
  refine Ops.q (q_mv rfl) ?_
  by_cases hj : 0 ≤ (xs.length : Int) - 1 - (j : Int)
  · refine Ops.q (q_cmp rfl rfl (c_ge hj)) ?_
    have hjl : j < xs.length := by omega
    have hji : (xs.length : Int) - 1 - (j : Int) = ((xs.length - 1 - j : Nat) : Int) := by omega
    obtain ⟨x1, hx2⟩ : ∃ x, xs[xs.length - 1 - j]? = some x := ⟨_, List.getElem?_eq_getElem (by omega)⟩
    obtain ⟨ab3, ao4, rfl⟩ := RoL.pos hX eEdge_len hx2
    have hb := backI_get hjl hx2
    refine Ops.to rfl ?_
    refine Cd.cond_t rfl ?_
    refine Cd.skipTo rfl ?_
    refine Cd.seq ?_
    refine Cd.block ?_
    refine Cd.seq ?_
    refine Cd.region ?_
    refine Ops.q (q_mv rfl) ?_
    refine Ops.q (q_mv rfl) ?_
    refine Ops.q (q_ldB isA_80 rfl (.there .here) rfl) ?_
    refine Ops.q (q_mv rfl) ?_
    refine Ops.q (q_ix (k := xs.length - 1 - j) esz_80 rfl (show some (Value.int .i64 ((xs.length : Int) - 1 - (j : Int))) = some (.int .i64 ((xs.length - 1 - j : Nat) : Int)) from by rw [hji]) (by omega)) ?_
    refine Ops.q (q_ldRN [.int .i64 x1.src, .int .i64 x1.dst, .int .i64 x1.len] isA_82 sz_82 rfl (fun j u hu => hX.at eEdge_len hx2 hu)) ?_
    refine Ops.yl (vs := argD ((xs.length : Int) - 1 - (j : Int), x1)) rfl rfl (fun w hs => hy _ _ _ w (backI_post hb) (hs.pull .here)) ?_
    refine Ops.q (q_not rfl) ?_
    refine Ops.to rfl ?_
    refine Cd.cond_f rfl ?_
    refine Cd.skipTo rfl ?_
    refine Cd.region ?_
    refine Ops.q (q_mv rfl) ?_
    refine Ops.q (q_ar (v := (xs.length : Int) - 1 - ((j + 1 : Nat) : Int)) rfl rfl ((by rw [a_sub (by omega)]; exact congrArg some (by omega)))) ?_
    refine Ops.q (q_asg rfl) ?_
    refine Ops.rnd (j + 1) rfl (by omega) (by omega) ⟨rfl, rfl, rfl, trivial⟩ (fun _ hs => by (try dsimp only); rw [backI_take hb]; exact hs) 
  · refine Ops.q (q_cmp rfl rfl (c_nge (by omega))) ?_
    refine Ops.to rfl ?_
    refine Cd.cond_f rfl ?_
    refine Cd.exitFin (fn := Try.f103) (by with_reducible repeat (first | exact xq_here | apply xq_then | apply xq_block | apply nq_block)) rfl ?_
    intro w' hs'
    rw [List.take_of_length_le (by rw [backI_length]; omega)] at hs'
    exact ⟨rfl, hs'⟩
end Go.Proofs.Ytilcdghliigngaa
namespace Go.Proofs.Ytilcdghliigngaa
open Go.RowKit Go.Proofs.YtilcdghliigngaaGl Go.Proofs.YtilcdghliigngaaPm
set_option linter.unusedVariables false
set_option linter.unusedSimpArgs false
def distS (m : Nat) (d : List Int) (p : Int × Evt) : List Int := if wi p.2.id 0 ((m : Int) - 1) then d.set p.2.id.toNat (IntKind.i64.wrap (p.2.tick - 1)) else d
def distF (m : Nat) (l : List (Int × Evt)) : List Int := l.foldl (distS m) (List.replicate m (-1))
theorem distF_len (m : Nat) (l : List (Int × Evt)) : (distF m l).length = m := by
  have : ∀ (l : List (Int × Evt)) (d : List Int), (l.foldl (distS m) d).length = d.length := by
    intro l
    induction l with
    | nil => intro d; rfl
    | cons p l ih => intro d; rw [List.foldl_cons, ih]; unfold distS; split <;> simp
  unfold distF; rw [this]; simp
theorem distF_snoc (m : Nat) (l : List (Int × Evt)) (p : Int × Evt) : distF m (l ++ [p]) = distS m (distF m l) p := by simp [distF]
def RetL (r : Except Int (List Int)) (w : World) (e : Ending) (w' : World) : Prop :=
  match r with
  | .ok xs => ∃ p : Option Addr × Nat, e = .returned (.tuple #[.slice p.1 xs.length p.2, .int .i64 0]) ∧ Sat w w' [row p.1 p.2 3 1 xs.length (xs.flatMap eInt)]
  | .error c => e = .returned (.tuple #[.slice none 0 0, .int .i64 c]) ∧ Sat w w' []
def distP (n : Int) (evs : List Evt) : Except Int (List Int) := if wi n 1 512 then .ok (distF n.toNat (backI evs)) else .error 3
theorem repeat_d (xb : Nat) (m : Nat) (w0 w : World) (F : List Atom) (hn : 1 ≤ m ∧ m ≤ 100000) (hs : Sat w0 w (row (some ⟨xb, 0, none⟩) 1 3 1 1 [.int .i64 (-1)] :: F)) : Calls Try.prog 52 [.slice (some ⟨xb, 0, none⟩) 1 1, .int .i64 (m : Int)].toArray w fun e w' => ∃ p : Option Addr × Nat, e = .returned (.slice p.1 m p.2) ∧ Sat w0 w' (row p.1 p.2 3 1 m ((distF m []).flatMap eInt) :: row (some ⟨xb, 0, none⟩) 1 3 1 1 [.int .i64 (-1)] :: F) := repeat_c xb (-1) m w0 w F hn hs
theorem dist_c (n : Int) (ea : Option Addr) (ec : Nat) (evs : List Evt) (w : World) (hE : RoL w ea eEvt evs) (hel : evs.length ≤ 1000000) : Calls Try.prog 37 [.int .i64 n, .slice ea evs.length ec].toArray w (RetL (distP n evs) w) := by
  refine fstartM Try.func37 rfl rfl (Sat.nil w) ?_
  refine Cd.seq ?_
  refine Cd.region ?_
  refine Ops.box [.int .i64 n] rfl rfl ?_
  intro b1
  refine Ops.q (q_asg rfl) ?_
  refine Ops.q (q_asg rfl) ?_
  refine Ops.to rfl ?_
  refine Cd.seq ?_
  refine Cd.seq ?_
  refine Cd.region ?_
  refine Ops.q (q_ldB isA_3 rfl .here rfl) ?_
  by_cases h2 : wi n 1 512
  · refine Ops.cp en_57 rfl (fun w hs => dT (in_c _ _ _ w) h2) ?_
    refine Ops.q (q_not rfl) ?_
    refine Ops.to rfl ?_
    refine Cd.cond_f rfl ?_
    refine Cd.skipTo rfl ?_
    refine Cd.seq ?_
    refine Cd.region ?_
    obtain ⟨m, rfl⟩ : ∃ j : Nat, n = (j : Int) := ⟨n.toNat, by unfold wi at h2; omega⟩
    have hm : 1 ≤ m ∧ m ≤ 512 := by unfold wi at h2; omega
    refine Ops.lit [.int .i64 (-1)] el_26 zsb_3 rfl rfl ⟨by decide, by decide⟩ rfl ?_
    intro b3
    refine Ops.q (q_ldB isA_3 rfl (.there .here) rfl) ?_
    refine Ops.cm (α := Option Addr × Nat) (v := fun p => .slice p.1 m p.2) (A' := fun p => row p.1 p.2 3 1 m ((distF m []).flatMap eInt) :: [row (some ⟨b3, 0, none⟩) 1 3 1 1 [.int .i64 (-1)], blk b1 3 [.int .i64 (m : Int)]]) en_52 rfl (fun w hs => repeat_d b3 m _ w _ (by omega) (((hs.pull (.there .here)).pull (.there .here)))) ?_
    rintro ⟨da, dc⟩
    refine Ops.alc [.slice none 0 0] zc_26 ?_
    intro b4
    refine Ops.stB [.slice da m dc] [.slice da m dc] sz_26 rfl rfl rfl (one rfl) .here rfl rfl ?_
    refine Ops.to rfl ?_
    refine Cd.seq ?_
    refine Cd.seq ?_
    refine Cd.region ?_
    refine Ops.q (q_mv rfl) ?_
    refine Ops.cl (α := Nat) (v := fun b => .func (.func 102) #[] #[.pointer (some ⟨b, 0, none⟩)]) (B := fun b => [blk b 27 [.slice ea evs.length ec]]) en_79 rfl (fun w hs => backE_c _ _ _ w) ?_
    intro ib
    refine Ops.to rfl ?_
    refine Cd.block ?_
    refine Cd.range2 (k := 102) (caps := [.pointer (some ⟨ib, 0, none⟩)]) (enc := argE) (xs := backI evs) (X := [blk ib 27 [.slice ea evs.length ec]]) (β := Nat) (fun pre : List (Int × Evt) => [blk b4 26 [.slice da m dc], row da dc 3 1 m ((distF m pre).flatMap eInt), blk b1 3 [.int .i64 (m : Int)]]) (fun x (b : Nat) => [(8, .pointer (some ⟨b, 0, none⟩)), (2, .pointer (some ⟨b1, 0, none⟩)), (6, .pointer (some ⟨b4, 0, none⟩))]) (fun pre x (b : Nat) => blk b 88 (eEvt x.2) :: [blk b4 26 [.slice da m dc], row da dc 3 1 m ((distF m pre).flatMap eInt), blk b1 3 [.int .i64 (m : Int)]])
      (iter102 ib _ _ evs w hE (by omega)) en_102 rfl (fun _ hs => (((((hs.pull .here).pull (.there (.there (.there (.there .here))))).pull (.there (.there (.there .here)))).pull (.there (.there (.there .here)))).pull (.there (.there (.there (.there .here))))).drop) rfl (fun _ => rfl) ?_ ?_ rfl ?_
    · intro l Y pre x hpost
      refine Cd.region ?_
      refine Ops.alc [.int .i64 0, .int .i64 0] zc_88 ?_
      intro b5
      refine Ops.stB [.int .i64 x.2.tick, .int .i64 x.2.id] [.int .i64 x.2.tick, .int .i64 x.2.id] sz_88 rfl rfl rfl (one rfl) .here rfl rfl ?_
      exact Ops.mid b5 ⟨rfl, rfl, rfl, trivial⟩ (fun _ hs => hs)
    · intro l Y pre x b hpost
      have hdl := distF_len m pre
      refine Cd.block ?_
      refine Cd.seq ?_
      refine Cd.region ?_
      refine Ops.q (q_fa fo_88_1 rfl) ?_
      refine Ops.q (q_ldB isA_3 rfl .here rfl) ?_
      refine Ops.q (q_ldB isA_3 rfl (.there (.there (.there .here))) rfl) ?_
      refine Ops.q (q_ar (v := (m : Int) - 1) rfl rfl (a_sub (by omega))) ?_
      by_cases h6 : wi x.2.id 0 ((m : Int) - 1)
      · refine Ops.cp en_57 rfl (fun w hs => dT (in_c _ _ _ w) h6) ?_
        refine Ops.to rfl ?_
        refine Cd.cond_t rfl ?_
        refine Cd.region ?_
        obtain ⟨dn, hdn⟩ : ∃ j : Nat, x.2.id = (j : Int) := ⟨x.2.id.toNat, by unfold wi at h6; omega⟩
        have hdn2 : dn < m := by unfold wi at h6; omega
        refine Ops.rowpos (.there (.there .here)) (by omega) ?_
        rintro rb hrb
        refine Ops.q (q_ldB isA_26 rfl (.there .here) rfl) ?_
        refine Ops.q (q_fa fo_88_1 rfl) ?_
        refine Ops.q (q_ldB isA_3 rfl .here rfl) ?_
        refine Ops.q (q_fa fo_88_0 rfl) ?_
        refine Ops.q (q_ldB isA_3 rfl .here rfl) ?_
        refine Ops.q (q_ar (v := IntKind.i64.wrap (x.2.tick - 1)) rfl rfl (rfl)) ?_
        subst hrb
        refine Ops.q (q_ix (k := dn) esz_26 rfl (show some (Value.int .i64 x.2.id) = some (.int .i64 (dn : Int)) from by rw [hdn]) hdn2) ?_
        refine Ops.stO [.int .i64 (IntKind.i64.wrap (x.2.tick - 1))] (((distF m pre).set dn (IntKind.i64.wrap (x.2.tick - 1))).flatMap eInt) sz_3 rfl rfl rfl (one rfl) (.there (.there .here)) (by rw [fm_length eInt_len]; simp only [List.length_cons, List.length_nil]; omega) (fm_set eInt_len (distF m pre) dn (IntKind.i64.wrap (x.2.tick - 1)) (by omega)) ?_
        refine Ops.endQ (by with_reducible repeat (first | exact nq_end | apply nq_nq | apply xq_then | apply xq_block | apply nq_block)) (fun _ hs => ?_)
        have h1 := ((((hs.pull (.there (.there (.there .here)))).pull (.there (.there (.there .here)))).pull (.there (.there (.there .here)))).pull (.there (.there (.there .here)))).drop
        have hD : distF m (pre ++ [x]) = (distF m pre).set dn (IntKind.i64.wrap (x.2.tick - 1)) := by rw [distF_snoc]; unfold distS; rw [if_pos h6, hdn, Int.toNat_natCast]
        rw [hD]
        exact h1
      · refine Ops.cp en_57 rfl (fun w hs => dF (in_c _ _ _ w) h6) ?_
        refine Ops.to rfl ?_
        refine Cd.cond_f rfl ?_
        refine Cd.endQ (by with_reducible repeat (first | exact nq_end | apply nq_nq | apply xq_then | apply xq_block | apply nq_block)) (fun _ hs => ?_)
        have h1 := ((((hs.pull (.there (.there (.there .here)))).pull (.there (.there (.there .here)))).pull (.there (.there (.there .here)))).pull (.there (.there (.there .here)))).drop
        have hD : distF m (pre ++ [x]) = distF m pre := by rw [distF_snoc]; unfold distS; rw [if_neg h6]
        rw [hD]
        exact h1
    · intro d
      refine Cd.seq ?_
      refine Cd.region ?_
      refine Ops.q (q_ldB isA_26 rfl (.there .here) rfl) ?_
      refine Ops.q (q_asg rfl) ?_
      refine Ops.q (q_asg rfl) ?_
      refine Ops.to rfl ?_
      refine Cd.rtM (fn := Try.f37) [.slice da m dc, .int .i64 0] (by with_reducible repeat (first | exact rqM_here | apply rq_then | apply rq_block)) rfl ⟨rfl, rfl, trivial⟩ .here ?_
      intro w' hs'
      have hP : distP (m : Int) evs = .ok (distF m (backI evs)) := by unfold distP; rw [if_pos h2]; rfl
      rw [hP]
      refine ⟨(da, dc), by rw [distF_len]; rfl, ?_⟩
      rw [distF_len]
      exact hs'.only (.there .here)
  · refine Ops.cp en_57 rfl (fun w hs => dF (in_c _ _ _ w) h2) ?_
    refine Ops.q (q_not rfl) ?_
    refine Ops.to rfl ?_
    refine Cd.cond_t rfl ?_
    refine Cd.seq ?_
    refine Cd.region ?_
    refine Ops.q (q_asg rfl) ?_
    refine Ops.q (q_asg rfl) ?_
    refine Ops.to rfl ?_
    refine Cd.rt0 (fn := Try.f37) [.slice none 0 0, .int .i64 3] (by with_reducible repeat (first | exact rqM_here | apply rq_then | apply rq_block)) rfl ⟨rfl, rfl, trivial⟩ ?_
    intro w' hs'
    rw [show distP n evs = .error 3 by unfold distP; rw [if_neg h2]]
    exact ⟨rfl, hs'.none⟩
end Go.Proofs.Ytilcdghliigngaa
namespace Go.Proofs.Ytilcdghliigngaa
open Go.RowKit Go.Proofs.YtilcdghliigngaaGl Go.Proofs.YtilcdghliigngaaPm
set_option linter.unusedVariables false
set_option linter.unusedSimpArgs false
def befOk (ds : List Int) (e : Edg) : Prop := 0 ≤ ds.getD e.src.toNat 0 ∧ ds.getD e.src.toNat 0 < ds.getD e.dst.toNat 0 ∧ IntKind.i64.wrap (ds.getD e.dst.toNat 0 - ds.getD e.src.toNat 0) = e.len
instance (ds : List Int) (e : Edg) : Decidable (befOk ds e) := inferInstanceAs (Decidable (_ ∧ _ ∧ _))
def befS (ds : List Int) (d : List Int) (p : Int × Edg) : List Int := if befOk ds p.2 then d.set p.2.dst.toNat p.2.src else d
def befF (m : Nat) (ds : List Int) (l : List (Int × Edg)) : List Int := l.foldl (befS ds) (List.replicate m (-1))
theorem befF_len (m : Nat) (ds : List Int) (l : List (Int × Edg)) : (befF m ds l).length = m := by
  have : ∀ (l : List (Int × Edg)) (d : List Int), (l.foldl (befS ds) d).length = d.length := by
    intro l
    induction l with
    | nil => intro d; rfl
    | cons p l ih => intro d; rw [List.foldl_cons, ih]; unfold befS; split <;> simp
  unfold befF; rw [this]; simp
theorem befF_snoc (m : Nat) (ds : List Int) (l : List (Int × Edg)) (p : Int × Edg) : befF m ds (l ++ [p]) = befS ds (befF m ds l) p := by simp [befF]
def befP (n : Int) (es : List Edg) (ds : List Int) : Except Int (List Int) := if graphE n es ≠ 0 then .error (graphE n es) else if (ds.length : Int) = n then .ok (befF n.toNat ds (backI es)) else .error 13
theorem repeat_b (xb : Nat) (m : Nat) (ds : List Int) (w0 w : World) (F : List Atom) (hn : 1 ≤ m ∧ m ≤ 100000) (hs : Sat w0 w (row (some ⟨xb, 0, none⟩) 1 3 1 1 [.int .i64 (-1)] :: F)) : Calls Try.prog 52 [.slice (some ⟨xb, 0, none⟩) 1 1, .int .i64 (m : Int)].toArray w fun e w' => ∃ p : Option Addr × Nat, e = .returned (.slice p.1 m p.2) ∧ Sat w0 w' (row p.1 p.2 3 1 m ((befF m ds []).flatMap eInt) :: row (some ⟨xb, 0, none⟩) 1 3 1 1 [.int .i64 (-1)] :: F) := repeat_c xb (-1) m w0 w F hn hs
theorem backI_mem {α : Type} {xs : List α} {p : Int × α} (h : p ∈ backI xs) : p.2 ∈ xs := by
  simp only [backI, List.mem_reverse, List.mem_map] at h
  obtain ⟨q, hq, rfl⟩ := h
  exact (List.mem_iff_getElem?.2 ⟨q.2, by simpa using List.mem_zipIdx_iff_getElem?.1 hq⟩)
theorem edgeE_ok {n : Int} {e : Edg} (h : edgeE n e = 0) : wi e.src 0 (n - 1) ∧ wi e.dst 0 (n - 1) ∧ wi e.len 1 16 := by
  unfold edgeE at h
  split at h
  · cases h
  · split at h
    · rename_i h1 h2
      refine ⟨?_, ?_, h2⟩ <;> (apply Decidable.byContradiction; intro hc; exact h1 (by simp [hc]))
    · cases h
theorem getD_of {ds : List Int} {k : Nat} {v : Int} (h : ds[k]? = some v) : ds.getD k 0 = v := by simp [List.getD, h]
theorem before_c (n : Int) (ea : Option Addr) (ec : Nat) (es : List Edg) (xa : Option Addr) (xc : Nat) (ds : List Int) (w : World) (hE : RoL w ea eEdge es) (hD : RoL w xa eInt ds) : Calls Try.prog 38 [.int .i64 n, .slice ea es.length ec, .slice xa ds.length xc].toArray w (RetL (befP n es ds) w) := by
  refine fstartM Try.func38 rfl rfl (Sat.nil w) ?_
  refine Cd.seq ?_
  refine Cd.region ?_
  refine Ops.box [.slice xa ds.length xc] rfl rfl ?_
  intro b1
  refine Ops.q (q_asg rfl) ?_
  refine Ops.q (q_asg rfl) ?_
  refine Ops.to rfl ?_
  refine Cd.seq ?_
  refine Cd.seq ?_
  refine Cd.region ?_
  refine Ops.q (q_mv rfl) ?_
  refine Ops.q (q_mv rfl) ?_
  refine Ops.cp en_71 rfl (fun w hs => checkGraph_c n _ _ es w (hE.later hs.below)) ?_
  refine Ops.q (q_asg rfl) ?_
  refine Ops.to rfl ?_
  refine Cd.seq ?_
  refine Cd.region ?_
  refine Ops.q (q_mv rfl) ?_
  by_cases h2 : graphE n es = 0
  · refine Ops.q (q_cmp rfl rfl (c_nne h2)) ?_
    obtain ⟨hn1, hel, hee⟩ := graph_ok h2
    obtain ⟨m, rfl⟩ : ∃ j : Nat, n = (j : Int) := ⟨n.toNat, by unfold wi at hn1; omega⟩
    have hm : 1 ≤ m ∧ m ≤ 512 := by unfold wi at hn1; omega
    refine Ops.to rfl ?_
    refine Cd.cond_f rfl ?_
    refine Cd.skipTo rfl ?_
    refine Cd.seq ?_
    refine Cd.seq ?_
    refine Cd.region ?_
    refine Ops.q (q_ldB isA_26 rfl .here rfl) ?_
    refine Ops.q (q_len esz_26 rfl) ?_
    refine Ops.q (q_mv rfl) ?_
    by_cases h3 : (ds.length : Int) = (m : Int)
    · refine Ops.q (q_cmp rfl rfl (c_nne h3)) ?_
      have hdl : ds.length = m := by omega
      obtain ⟨d0, hd0⟩ : ∃ v, ds[0]? = some v := ⟨_, List.getElem?_eq_getElem (by omega)⟩
      obtain ⟨xb, xo, rfl⟩ := RoL.pos hD eInt_len hd0
      refine Ops.to rfl ?_
      refine Cd.cond_f rfl ?_
      refine Cd.skipTo rfl ?_
      refine Cd.seq ?_
      refine Cd.region ?_
      refine Ops.lit [.int .i64 (-1)] el_26 zsb_3 rfl rfl ⟨by decide, by decide⟩ rfl ?_
      intro b4
      refine Ops.q (q_mv rfl) ?_
      refine Ops.cm (α := Option Addr × Nat) (v := fun p => .slice p.1 m p.2) (A' := fun p => row p.1 p.2 3 1 m ((befF m ds []).flatMap eInt) :: [row (some ⟨b4, 0, none⟩) 1 3 1 1 [.int .i64 (-1)], blk b1 26 [.slice (some ⟨xb, xo, none⟩) ds.length xc]]) en_52 rfl (fun w hs => repeat_b b4 m ds _ w _ (by omega) (((hs.pull (.there .here)).pull (.there .here)))) ?_
      rintro ⟨da, dc⟩
      refine Ops.alc [.slice none 0 0] zc_26 ?_
      intro b5
      refine Ops.stB [.slice da m dc] [.slice da m dc] sz_26 rfl rfl rfl (one rfl) .here rfl rfl ?_
      refine Ops.to rfl ?_
      refine Cd.seq ?_
      refine Cd.seq ?_
      refine Cd.region ?_
      refine Ops.q (q_mv rfl) ?_
      refine Ops.cl (α := Nat) (v := fun b => .func (.func 103) #[] #[.pointer (some ⟨b, 0, none⟩)]) (B := fun b => [blk b 80 [.slice ea es.length ec]]) en_80 rfl (fun w hs => backD_c _ _ _ w) ?_
      intro ib
      refine Ops.to rfl ?_
      refine Cd.block ?_
      refine Cd.range2 (k := 103) (caps := [.pointer (some ⟨ib, 0, none⟩)]) (enc := argD) (xs := backI es) (X := [blk ib 80 [.slice ea es.length ec]]) (β := Nat) (fun pre : List (Int × Edg) => [blk b5 26 [.slice da m dc], row da dc 3 1 m ((befF m ds pre).flatMap eInt), blk b1 26 [.slice (some ⟨xb, xo, none⟩) ds.length xc]]) (fun x (b : Nat) => [(11, .pointer (some ⟨b, 0, none⟩)), (5, .pointer (some ⟨b1, 0, none⟩)), (9, .pointer (some ⟨b5, 0, none⟩))]) (fun pre x (b : Nat) => blk b 82 (eEdge x.2) :: [blk b5 26 [.slice da m dc], row da dc 3 1 m ((befF m ds pre).flatMap eInt), blk b1 26 [.slice (some ⟨xb, xo, none⟩) ds.length xc]])
        (iter103 ib _ _ es w hE (by omega)) en_103 rfl (fun _ hs => (((((hs.pull .here).pull (.there (.there (.there (.there .here))))).pull (.there (.there (.there .here)))).pull (.there (.there (.there .here)))).pull (.there (.there (.there (.there .here))))).drop) rfl (fun _ => rfl) ?_ ?_ rfl ?_
      · intro l Y pre x hpost
        refine Cd.region ?_
        refine Ops.alc [.int .i64 0, .int .i64 0, .int .i64 0] zc_82 ?_
        intro b6
        refine Ops.stB [.int .i64 x.2.src, .int .i64 x.2.dst, .int .i64 x.2.len] [.int .i64 x.2.src, .int .i64 x.2.dst, .int .i64 x.2.len] sz_82 rfl rfl rfl (one rfl) .here rfl rfl ?_
        exact Ops.mid b6 ⟨rfl, rfl, rfl, trivial⟩ (fun _ hs => hs)
      · intro l Y pre x b hpost
        have hdl := befF_len m ds pre
        obtain ⟨post, hpost⟩ := hpost
        have hxm : x.2 ∈ es := backI_mem (by rw [← hpost]; simp)
        obtain ⟨hsr, hds, hln⟩ := edgeE_ok (hee x.2 hxm)
        unfold wi at hsr hds hln
        obtain ⟨sn, hsn⟩ : ∃ j : Nat, x.2.src = (j : Int) := ⟨x.2.src.toNat, by omega⟩
        obtain ⟨dn, hdn⟩ : ∃ j : Nat, x.2.dst = (j : Int) := ⟨x.2.dst.toNat, by omega⟩
        obtain ⟨av, hav⟩ : ∃ v, ds[sn]? = some v := ⟨_, List.getElem?_eq_getElem (by omega)⟩
        obtain ⟨bv, hbv⟩ : ∃ v, ds[dn]? = some v := ⟨_, List.getElem?_eq_getElem (by omega)⟩
        have hda : ds.getD x.2.src.toNat 0 = av := by rw [hsn, Int.toNat_natCast]; exact getD_of hav
        have hdb : ds.getD x.2.dst.toNat 0 = bv := by rw [hdn, Int.toNat_natCast]; exact getD_of hbv
        refine Cd.block ?_
        refine Cd.seq ?_
        refine Cd.draw rfl (by kernel_rfl) (.cons (.there (.there (.there .here))) (.cons .here .nil)) ?_
        intro F7 St8 hP9 hF10 hR11
        refine Dr.q (i := 0) hP9 rfl (by kernel_rfl) (q_ldB isA_26 rfl .here rfl) ?_
        refine Dr.q (i := 1) hP9 rfl (by kernel_rfl) (q_fa fo_82_0 rfl) ?_
        refine Dr.q (i := 2) hP9 rfl (by kernel_rfl) (q_ldB isA_3 rfl (.there .here) rfl) ?_
        refine Dr.q (i := 3) hP9 rfl (by kernel_rfl) (q_ix (k := sn) esz_26 rfl (show some (Value.int .i64 x.2.src) = some (.int .i64 (sn : Int)) from by rw [hsn]) (by omega)) ?_
        refine Dr.q (i := 4) hP9 rfl (by kernel_rfl) (q_ldR isA_3 rfl (hD.at0 eInt_len hav rfl)) ?_
        refine Dr.q (i := 5) hP9 rfl (by kernel_rfl) (q_ldB isA_26 rfl .here rfl) ?_
        refine Dr.q (i := 6) hP9 rfl (by kernel_rfl) (q_fa fo_82_1 rfl) ?_
        refine Dr.q (i := 7) hP9 rfl (by kernel_rfl) (q_ldB isA_3 rfl (.there .here) rfl) ?_
        refine Dr.q (i := 8) hP9 rfl (by kernel_rfl) (q_ix (k := dn) esz_26 rfl (show some (Value.int .i64 x.2.dst) = some (.int .i64 (dn : Int)) from by rw [hdn]) (by omega)) ?_
        refine Dr.q (i := 9) hP9 rfl (by kernel_rfl) (q_ldR isA_3 rfl (hD.at0 eInt_len hbv rfl)) ?_
        refine Dr.q (i := 10) hP9 rfl (by kernel_rfl) (q_asg rfl) ?_
        refine Dr.tail 11 (by kernel_rfl) ?_
        refine Ops.sat ?_ (fun _ hs => hR11 .here hs)
        refine Ops.q (q_asg rfl) ?_
        refine Ops.to rfl ?_
        refine Cd.seq ?_
        refine Cd.region ?_
        refine Ops.q (q_mv rfl) ?_
        by_cases h12 : 0 ≤ av
        · refine Ops.q (q_cmp rfl rfl (c_ge h12)) ?_
          refine Ops.q (q_mv rfl) ?_
          refine Ops.q (q_mv rfl) ?_
          refine Ops.q (q_mv rfl) ?_
          by_cases h13 : av < bv
          · refine Ops.q (q_cmp rfl rfl (c_gt h13)) ?_
            refine Ops.q (q_pickT rfl rfl) ?_
            refine Ops.q (q_mv rfl) ?_
            refine Ops.q (q_mv rfl) ?_
            refine Ops.q (q_mv rfl) ?_
            refine Ops.q (q_ar (v := IntKind.i64.wrap (bv - av)) rfl rfl (rfl)) ?_
            refine Ops.q (q_fa fo_82_2 rfl) ?_
            refine Ops.q (q_ldB isA_3 rfl (.there .here) rfl) ?_
            by_cases h14 : IntKind.i64.wrap (bv - av) = x.2.len
            · refine Ops.q (q_cmp rfl rfl (c_eq h14)) ?_
              refine Ops.q (q_pickT rfl rfl) ?_
              refine Ops.to rfl ?_
              refine Cd.cond_t rfl ?_
              refine Cd.region ?_
              refine Ops.rowpos (.there (.there (.there .here))) (by omega) ?_
              rintro rb hrb
              refine Ops.q (q_ldB isA_26 rfl (.there (.there .here)) rfl) ?_
              refine Ops.q (q_fa fo_82_1 rfl) ?_
              refine Ops.q (q_ldB isA_3 rfl (.there .here) rfl) ?_
              refine Ops.q (q_fa fo_82_0 rfl) ?_
              refine Ops.q (q_ldB isA_3 rfl (.there .here) rfl) ?_
              subst hrb
              refine Ops.q (q_ix (k := dn) esz_26 rfl (show some (Value.int .i64 x.2.dst) = some (.int .i64 (dn : Int)) from by rw [hdn]) (by omega)) ?_
              refine Ops.stO [.int .i64 x.2.src] (((befF m ds pre).set dn x.2.src).flatMap eInt) sz_3 rfl rfl rfl (one rfl) (.there (.there (.there .here))) (by rw [fm_length eInt_len]; simp only [List.length_cons, List.length_nil]; omega) (fm_set eInt_len (befF m ds pre) dn x.2.src (by omega)) ?_
              refine Ops.endQ (by with_reducible repeat (first | exact nq_end | apply nq_nq | apply xq_then | apply xq_block | apply nq_block)) (fun _ hs => ?_)
              have h1 := ((((hs.pull .here).pull (.there (.there (.there .here)))).pull (.there (.there (.there .here)))).pull (.there (.there (.there .here)))).drop
              have hB : befF m ds (pre ++ [x]) = (befF m ds pre).set dn x.2.src := by rw [befF_snoc]; unfold befS; rw [if_pos (by unfold befOk; rw [hda, hdb]; omega), hdn, Int.toNat_natCast]
              rw [hB]
              exact h1
            · refine Ops.q (q_cmp rfl rfl (c_neq h14)) ?_
              refine Ops.q (q_pickT rfl rfl) ?_
              refine Ops.to rfl ?_
              refine Cd.cond_f rfl ?_
              refine Cd.endQ (by with_reducible repeat (first | exact nq_end | apply nq_nq | apply xq_then | apply xq_block | apply nq_block)) (fun _ hs => ?_)
              have h1 := ((((hs.pull .here).pull (.there (.there (.there .here)))).pull (.there (.there (.there .here)))).pull (.there (.there (.there .here)))).drop
              have hB : befF m ds (pre ++ [x]) = befF m ds pre := by rw [befF_snoc]; unfold befS; rw [if_neg (by unfold befOk; rw [hda, hdb]; omega)]
              rw [hB]
              exact h1
          · refine Ops.q (q_cmp rfl rfl (c_ngt (by omega))) ?_
            refine Ops.q (q_pickT rfl rfl) ?_
            refine Ops.q (q_mv rfl) ?_
            refine Ops.sk ?_
            refine Ops.sk ?_
            refine Ops.sk ?_
            refine Ops.sk ?_
            refine Ops.sk ?_
            refine Ops.sk ?_
            refine Ops.q (q_pickF rfl rfl) ?_
            refine Ops.to rfl ?_
            refine Cd.cond_f rfl ?_
            refine Cd.endQ (by with_reducible repeat (first | exact nq_end | apply nq_nq | apply xq_then | apply xq_block | apply nq_block)) (fun _ hs => ?_)
            have h1 := ((((hs.pull .here).pull (.there (.there (.there .here)))).pull (.there (.there (.there .here)))).pull (.there (.there (.there .here)))).drop
            have hB : befF m ds (pre ++ [x]) = befF m ds pre := by rw [befF_snoc]; unfold befS; rw [if_neg (by unfold befOk; rw [hda, hdb]; omega)]
            rw [hB]
            exact h1
        · refine Ops.q (q_cmp rfl rfl (c_nge (by omega))) ?_
          refine Ops.q (q_mv rfl) ?_
          refine Ops.sk ?_
          refine Ops.sk ?_
          refine Ops.sk ?_
          refine Ops.q (q_pickF rfl rfl) ?_
          refine Ops.q (q_mv rfl) ?_
          refine Ops.sk ?_
          refine Ops.sk ?_
          refine Ops.sk ?_
          refine Ops.sk ?_
          refine Ops.sk ?_
          refine Ops.sk ?_
          refine Ops.q (q_pickF rfl rfl) ?_
          refine Ops.to rfl ?_
          refine Cd.cond_f rfl ?_
          refine Cd.endQ (by with_reducible repeat (first | exact nq_end | apply nq_nq | apply xq_then | apply xq_block | apply nq_block)) (fun _ hs => ?_)
          have h1 := ((((hs.pull .here).pull (.there (.there (.there .here)))).pull (.there (.there (.there .here)))).pull (.there (.there (.there .here)))).drop
          have hB : befF m ds (pre ++ [x]) = befF m ds pre := by rw [befF_snoc]; unfold befS; rw [if_neg (by unfold befOk; rw [hda, hdb]; omega)]
          rw [hB]
          exact h1
      · intro d
        refine Cd.seq ?_
        refine Cd.region ?_
        refine Ops.q (q_ldB isA_26 rfl (.there .here) rfl) ?_
        refine Ops.q (q_asg rfl) ?_
        refine Ops.q (q_asg rfl) ?_
        refine Ops.to rfl ?_
        refine Cd.rtM (fn := Try.f38) [.slice da m dc, .int .i64 0] (by with_reducible repeat (first | exact rqM_here | apply rq_then | apply rq_block)) rfl ⟨rfl, rfl, trivial⟩ .here ?_
        intro w' hs'
        have hP : befP (m : Int) es ds = .ok (befF m ds (backI es)) := by unfold befP; rw [if_neg (by simpa using h2), if_pos h3]; rfl
        rw [hP]
        refine ⟨(da, dc), by rw [befF_len]; rfl, ?_⟩
        rw [befF_len]
        exact hs'.only (.there .here)
    · refine Ops.q (q_cmp rfl rfl (c_ne h3)) ?_
      refine Ops.to rfl ?_
      refine Cd.cond_t rfl ?_
      refine Cd.seq ?_
      refine Cd.region ?_
      refine Ops.q (q_asg rfl) ?_
      refine Ops.q (q_asg rfl) ?_
      refine Ops.to rfl ?_
      refine Cd.rt0 (fn := Try.f38) [.slice none 0 0, .int .i64 13] (by with_reducible repeat (first | exact rqM_here | apply rq_then | apply rq_block)) rfl ⟨rfl, rfl, trivial⟩ ?_
      intro w' hs'
      rw [show befP (m : Int) es ds = .error 13 by unfold befP; rw [if_neg (by simpa using h2), if_neg h3]]
      exact ⟨rfl, hs'.none⟩
  · refine Ops.q (q_cmp rfl rfl (c_ne h2)) ?_
    refine Ops.to rfl ?_
    refine Cd.cond_t rfl ?_
    refine Cd.seq ?_
    refine Cd.region ?_
    refine Ops.q (q_mv rfl) ?_
    refine Ops.q (q_asg rfl) ?_
    refine Ops.q (q_asg rfl) ?_
    refine Ops.to rfl ?_
    refine Cd.rt0 (fn := Try.f38) [.slice none 0 0, .int .i64 (graphE n es)] (by with_reducible repeat (first | exact rqM_here | apply rq_then | apply rq_block)) rfl ⟨rfl, rfl, trivial⟩ ?_
    intro w' hs'
    rw [show befP n es ds = .error (graphE n es) by unfold befP; rw [if_pos h2]]
    exact ⟨rfl, hs'.none⟩
end Go.Proofs.Ytilcdghliigngaa
namespace Go.Proofs.YtilcdghliigngaaGl
set_option linter.unusedVariables false
set_option linter.unusedSimpArgs false
open Go.RowKit
section
variable {P : Program} {r : Option Nat} {ops : Array Oper} {Q : Exit → Act → World → Prop} {w0 : World} {n : Nat} {D : List Deferred} {rest : List Oper} {L : Env} {A : List Atom}
variable {t : Nat} {ty : TypeId} {pos : String} {af : Array Edge} {g : Option (Nat × Bool)}
theorem q_cap {x : Operand} {s E : TypeId} {a : Option Addr} {len cap : Nat} (hT : elT P s = some E) (hx : ev L x = some (.slice a len cap)) : Qv P w0 n D L A (.call ⟨.builtin .cap, #[x], #[s]⟩) (.int .i64 (cap : Int)) := fun ac w hk _ _ _ _ _ _ => ⟨by
  simp [execOp, resolve, invoke, builtin, hk.ev hx, Builtin.cap_, run_underlying (elT_u hT), goInt], rfl⟩
theorem Ops.appz {x y : Operand} {T N E : TypeId} {kn : IntKind} {zs : List Value} {sz by_ m : Nat} (hT : elT P T = some E) (hN : iK P N = some kn) (hE : zsb P E = some (zs, sz, by_)) (hs0 : 0 < sz) (hx : ev L x = some (.slice none 0 0)) (hy : ev L y = some (.int .i64 (m : Int)))
    (hm : 0 < m) (hb : m * by_ ≤ 281474976710656) (hb' : m ≤ 140737488355328)
    (h : ∀ b cap, m ≤ cap → Ops P r ops Q w0 n D rest ((t, .slice (some ⟨b, 0, none⟩) m cap) :: L) (row (some ⟨b, 0, none⟩) cap E sz 0 [] :: A))
    (hg : gd ops L ⟨some t, .call ⟨.builtin .append, #[x, y], #[T, N]⟩, ty, pos, af, g⟩ = some true := by rfl) (ht : Nat.blt t n = true := by rfl) :
    Ops P r ops Q w0 n D (⟨some t, .call ⟨.builtin .append, #[x, y], #[T, N]⟩, ty, pos, af, g⟩ :: rest) L A :=
  Ops.val (α := {p : Nat × Nat // m ≤ p.2}) (v := fun p => .slice (some ⟨p.1.1, 0, none⟩) m p.1.2) (A' := fun p => row (some ⟨p.1.1, 0, none⟩) p.1.2 E sz 0 [] :: A) hg rfl ht rfl (fun ac w hk hs => by
    obtain ⟨i, z, hi, hz, hsz, hby, hzs, hzl⟩ := zsb_u hE
    have hr := Lib.run_append_nil_zeros (P := P) w T N ty E i z .i64 kn (elT_u hT) (iK_u hN) hi hz m hm (by omega) (by omega) (by rw [hby]; exact hb)
    refine ⟨⟨(w.heap.size, grownCap w m 0 E), grownCap_ge w m 0 E⟩, w.drew.alloc (.cells (Builtin.zeroCells z.cells m ++ Builtin.zeroCells z.cells (grownCap w m 0 E - m)) E), by simp only [execOp, resolve, invoke, builtin, hk.ev hx, hk.ev hy, List.map_toArray, List.map_cons, List.map_nil, Sem.run_bind, Sem.run_pure, Result.andThen_ok, hr], ?_⟩
    have hc : (Builtin.zeroCells z.cells m ++ Builtin.zeroCells z.cells (grownCap w m 0 E - m)).size = grownCap w m 0 E * sz := by
      have hge := grownCap_ge w m 0 E
      simp only [Builtin.zeroCells, Array.size_append, Array.size_map, Array.size_range, hzs]
      rw [← Nat.add_mul]; congr 1; omega
    have ho := World.ownsRow_made (w := w.drew) (base := 0) (e := E) (size := sz) _ (grownCap w m 0 E) (Nat.zero_le _) (grownCap_le_maxLen w m 0 E (by simp only [maxLen]; omega)) hc
    exact hs.drew.add (Below.alloc (Below.refl _ _) (Nat.le_refl _) _) (S := fun k => k = w.heap.size) ⟨ho, fun k => by simp [Value.ownBlock, eq_comm]⟩ (fun k hk => by subst hk; exact Nat.le_refl _)) (fun p => h p.1.1 p.1.2 p.2)
end
end Go.Proofs.YtilcdghliigngaaGl
namespace Go.Proofs.Ytilcdghliigngaa
open Go.RowKit Go.Proofs.YtilcdghliigngaaGl Go.Proofs.YtilcdghliigngaaPm
set_option linter.unusedVariables false
set_option linter.unusedSimpArgs false
abbrev NL := (Option Addr × Nat) × List Int
def eNL (l : NL) : List Value := [.slice l.1.1 l.2.length l.1.2]
theorem eNL_len (l : NL) : (eNL l).length = 1 := rfl
def RoLL (w : World) (a : Option Addr) (ls : List NL) : Prop := RoL w a eNL ls ∧ ∀ l ∈ ls, RoL w l.1.1 eInt l.2
theorem RoLL.later {w w' : World} {a : Option Addr} {ls : List NL} (h : RoLL w a ls) (hb : Below w.heap.size w w') : RoLL w' a ls := ⟨RoL.later h.1 hb, fun l hl => RoL.later (h.2 l hl) hb⟩
theorem acheck1_c (b nb no nc : Nat) (ls : List NL) (st : Int) (aa : Option Addr) (al ac : Nat) (l0 : NL) (ra : Option Addr) (rl rc : Nat) (w0 w : World) (F : List Atom) (hL : RoLL w0 (some ⟨nb, no, none⟩) ls) (hl0 : ls[0]? = some l0) (h0 : 0 < ls.length) (hs : Sat w0 w (blk b 36 [.slice (some ⟨nb, no, none⟩) ls.length nc, .int .i64 st, .slice aa al ac] :: F)) :
    Calls Try.prog 84 [.slice ra rl rc, .pointer (some ⟨b, 0, none⟩)].toArray w fun e w' => e = .returned (.bool (decide (¬ rl = l0.2.length))) ∧ Sat w0 w' (blk b 36 [.slice (some ⟨nb, no, none⟩) ls.length nc, .int .i64 st, .slice aa al ac] :: F) := by
  refine fstart Try.func84 rfl rfl hs ?_
  refine Cd.seq ?_
  refine Cd.region ?_
  refine Ops.q (q_asg rfl) ?_
  refine Ops.to rfl ?_
  refine Cd.seq ?_
  refine Cd.region ?_
  refine Ops.q (q_mv rfl) ?_
  refine Ops.q (q_len esz_26 rfl) ?_
  refine Ops.q (q_fa fo_36_0 rfl) ?_
  refine Ops.q (q_ldB isA_22 rfl .here rfl) ?_
  refine Ops.q (q_ix (k := 0) esz_22 rfl rfl (by omega)) ?_
  refine Ops.q (q_ldR isA_26 rfl (hL.1.at0 eNL_len hl0 rfl)) ?_
  refine Ops.q (q_len esz_26 rfl) ?_
  by_cases h1 : (rl : Int) = (l0.2.length : Int)
  · refine Ops.q (q_cmp rfl rfl (c_nne h1)) ?_
    refine Ops.q (q_asg rfl) ?_
    refine Ops.to rfl ?_
    refine Cd.rt (fn := Try.f84) [.bool false] (by with_reducible repeat (first | exact rq_here | apply rq_then | apply rq_block)) rfl ⟨rfl, trivial⟩ ?_
    intro w' hs'
    exact ⟨ebool (by simp; try omega), hs'⟩
  · refine Ops.q (q_cmp rfl rfl (c_ne h1)) ?_
    refine Ops.q (q_asg rfl) ?_
    refine Ops.to rfl ?_
    refine Cd.rt (fn := Try.f84) [.bool true] (by with_reducible repeat (first | exact rq_here | apply rq_then | apply rq_block)) rfl ⟨rfl, trivial⟩ ?_
    intro w' hs'
    exact ⟨ebool (by simp; try omega), hs'⟩
theorem indexFunc_c (b nb no nc : Nat) (ls : List NL) (st : Int) (aa : Option Addr) (al ac : Nat) (l0 : NL) (w0 w : World) (F : List Atom) (hL : RoLL w0 (some ⟨nb, no, none⟩) ls) (hl0 : ls[0]? = some l0) (h0 : 0 < ls.length) (hlm : ls.length ≤ 1000000) (hs : Sat w0 w (blk b 36 [.slice (some ⟨nb, no, none⟩) ls.length nc, .int .i64 st, .slice aa al ac] :: F)) :
    Calls Try.prog 106 [.slice (some ⟨nb, no, none⟩) ls.length nc, .func (.func 84) #[] #[.pointer (some ⟨b, 0, none⟩)]].toArray w fun e w' => ∃ i : Int, e = .returned (.int .i64 i) ∧ (0 ≤ i ↔ ∃ y ∈ ls, ¬ y.2.length = l0.2.length) ∧ Sat w0 w' (blk b 36 [.slice (some ⟨nb, no, none⟩) ls.length nc, .int .i64 st, .slice aa al ac] :: F) := by
  refine fstart Try.func106 rfl rfl hs ?_
  refine Cd.seq ?_
  refine Cd.region ?_
  refine Ops.q (q_asg rfl) ?_
  refine Ops.to rfl ?_
  refine Cd.seq ?_
  refine Cd.seq ?_
  refine Cd.region ?_
  refine Ops.q (q_mv rfl) ?_
  refine Ops.q (q_len esz_22 rfl) ?_
  refine Ops.q (q_mv rfl) ?_
  refine Ops.to rfl ?_
  refine Cd.block ?_
  refine Cd.lp (σ := Nat) (fun k => k ≤ ls.length ∧ ∀ y ∈ ls.take k, y.2.length = l0.2.length) (fun k => [(0, .slice (some ⟨nb, no, none⟩) ls.length nc), (1, .func (.func 84) #[] #[.pointer (some ⟨b, 0, none⟩)]), (7, .int .i64 (ls.length : Int)), (8, .int .i64 (k : Int))]) (fun k => blk b 36 [.slice (some ⟨nb, no, none⟩) ls.length nc, .int .i64 st, .slice aa al ac] :: F) (fun k => ls.length - k) 0 ⟨Nat.zero_le _, by simp⟩ ⟨rfl, rfl, rfl, rfl, trivial⟩ (fun _ hs => hs) ?_
  intro k hI
  have hI1 := hI.1
  refine Cd.seq ?_
  refine Cd.region ?_
  by_cases hk : (k : Int) < (ls.length : Int)
  · refine Ops.q (q_cmp rfl rfl (c_lt hk)) ?_
    obtain ⟨x1, hx2⟩ : ∃ x, ls[k]? = some x := ⟨_, List.getElem?_eq_getElem (by omega)⟩
    refine Ops.to rfl ?_
    refine Cd.seq ?_
    refine Cd.cond_t rfl ?_
    refine Cd.skipTo rfl ?_
    refine Cd.seq ?_
    refine Cd.block ?_
    refine Cd.seq ?_
    refine Cd.region ?_
    refine Ops.q (q_mv rfl) ?_
    refine Ops.q (q_asg rfl) ?_
    refine Ops.to rfl ?_
    refine Cd.seq ?_
    refine Cd.region ?_
    refine Ops.q (q_mv rfl) ?_
    refine Ops.q (q_mv rfl) ?_
    refine Ops.q (q_mv rfl) ?_
    refine Ops.q (q_ix (k := k) esz_22 rfl rfl (by omega)) ?_
    refine Ops.q (q_ldR isA_26 rfl (hL.1.at0 eNL_len hx2 rfl)) ?_
    by_cases hc3 : ¬ x1.2.length = l0.2.length
    · refine Ops.cv (α := Unit) (k := 84) (first := []) (caps := [.pointer (some ⟨b, 0, none⟩)]) (vs := [.slice x1.1.1 x1.2.length x1.1.2]) (v := fun _ => .bool true) (A' := fun _ => blk b 36 [.slice (some ⟨nb, no, none⟩) ls.length nc, .int .i64 st, .slice aa al ac] :: F) en_84 rfl rfl (fun w hs => bT (acheck1_c b nb no nc ls st aa al ac l0 _ _ _ _ w _ hL hl0 h0 hs) hc3) ?_
      intro _
      refine Ops.to rfl ?_
      refine Cd.cond_t rfl ?_
      refine Cd.seq ?_
      refine Cd.region ?_
      refine Ops.q (q_mv rfl) ?_
      refine Ops.q (q_asg rfl) ?_
      refine Ops.to rfl ?_
      refine Cd.rt (fn := Try.f106) [.int .i64 (k : Int)] (by with_reducible repeat (first | exact rq_here | apply rq_then | apply rq_block)) rfl ⟨rfl, trivial⟩ ?_
      intro w' hs'
      exact ⟨(k : Int), rfl, ⟨fun _ => ⟨x1, List.mem_iff_getElem?.2 ⟨k, hx2⟩, hc3⟩, fun _ => by omega⟩, hs'⟩
    · refine Ops.cv (α := Unit) (k := 84) (first := []) (caps := [.pointer (some ⟨b, 0, none⟩)]) (vs := [.slice x1.1.1 x1.2.length x1.1.2]) (v := fun _ => .bool false) (A' := fun _ => blk b 36 [.slice (some ⟨nb, no, none⟩) ls.length nc, .int .i64 st, .slice aa al ac] :: F) en_84 rfl rfl (fun w hs => bF (acheck1_c b nb no nc ls st aa al ac l0 _ _ _ _ w _ hL hl0 h0 hs) hc3) ?_
      intro _
      refine Ops.to rfl ?_
      refine Cd.cond_f rfl ?_
      refine Cd.skipTo rfl ?_
      refine Cd.region ?_
      refine Ops.q (q_ar rfl rfl (a_inc (by omega))) ?_
      refine Ops.q (q_mv rfl) ?_
      refine Ops.rnd (k + 1) rfl (⟨by omega, by intro y hy; rw [List.take_add_one, hx2] at hy; rcases List.mem_append.1 hy with hy | hy; exact hI.2 y hy; obtain rfl := List.mem_singleton.1 hy; exact Decidable.of_not_not hc3⟩) (by omega) ⟨rfl, rfl, rfl, rfl, trivial⟩ (fun _ hs => hs) 
  · refine Ops.q (q_cmp rfl rfl (c_nlt (by omega))) ?_
    refine Ops.to rfl ?_
    refine Cd.seq ?_
    refine Cd.cond_f rfl ?_
    refine Cd.exitTo rfl ?_
    refine Cd.seq ?_
    refine Cd.region ?_
    refine Ops.q (q_asg rfl) ?_
    refine Ops.to rfl ?_
    refine Cd.rt (fn := Try.f106) [.int .i64 (-1)] (by with_reducible repeat (first | exact rq_here | apply rq_then | apply rq_block)) rfl ⟨rfl, trivial⟩ ?_
    intro w' hs'
    exact ⟨-1, rfl, ⟨fun h => by omega, fun ⟨y, hy, hne⟩ => by rw [List.take_of_length_le (by omega)] at hI; exact absurd (hI.2 y hy) hne⟩, hs'⟩
theorem containsFunc_c (b nb no nc : Nat) (ls : List NL) (st : Int) (aa : Option Addr) (al ac : Nat) (l0 : NL) (w0 w : World) (F : List Atom) (hL : RoLL w0 (some ⟨nb, no, none⟩) ls) (hl0 : ls[0]? = some l0) (h0 : 0 < ls.length) (hlm : ls.length ≤ 1000000) (hs : Sat w0 w (blk b 36 [.slice (some ⟨nb, no, none⟩) ls.length nc, .int .i64 st, .slice aa al ac] :: F)) :
    Calls Try.prog 83 [.slice (some ⟨nb, no, none⟩) ls.length nc, .func (.func 84) #[] #[.pointer (some ⟨b, 0, none⟩)]].toArray w fun e w' => e = .returned (.bool (decide (∃ y ∈ ls, ¬ y.2.length = l0.2.length))) ∧ Sat w0 w' (blk b 36 [.slice (some ⟨nb, no, none⟩) ls.length nc, .int .i64 st, .slice aa al ac] :: F) := by
  refine fstart Try.func83 rfl rfl hs ?_
  refine Cd.seq ?_
  refine Cd.region ?_
  refine Ops.q (q_asg rfl) ?_
  refine Ops.to rfl ?_
  refine Cd.seq ?_
  refine Cd.region ?_
  refine Ops.q (q_mv rfl) ?_
  refine Ops.q (q_mv rfl) ?_
  refine Ops.cm (α := {i : Int // 0 ≤ i ↔ ∃ y ∈ ls, ¬ y.2.length = l0.2.length}) (v := fun i => .int .i64 i.1) (A' := fun _ => blk b 36 [.slice (some ⟨nb, no, none⟩) ls.length nc, .int .i64 st, .slice aa al ac] :: F) en_106 rfl (fun w hs => (indexFunc_c b nb no nc ls st aa al ac l0 _ w _ hL hl0 h0 hlm hs).mono fun e w' h => by obtain ⟨i, h1, h2, h3⟩ := h; exact ⟨⟨i, h2⟩, h1, h3⟩) ?_
  intro i
  by_cases h1 : 0 ≤ i.1
  · refine Ops.q (q_cmp rfl rfl (c_ge h1)) ?_
    refine Ops.q (q_asg rfl) ?_
    refine Ops.to rfl ?_
    refine Cd.rt (fn := Try.f83) [.bool true] (by with_reducible repeat (first | exact rq_here | apply rq_then | apply rq_block)) rfl ⟨rfl, trivial⟩ ?_
    intro w' hs'
    exact ⟨ebool (by rw [← i.2]; simp; try omega), hs'⟩
  · refine Ops.q (q_cmp rfl rfl (c_nge (by omega))) ?_
    refine Ops.q (q_asg rfl) ?_
    refine Ops.to rfl ?_
    refine Cd.rt (fn := Try.f83) [.bool false] (by with_reducible repeat (first | exact rq_here | apply rq_then | apply rq_block)) rfl ⟨rfl, trivial⟩ ?_
    intro w' hs'
    exact ⟨ebool (by rw [← i.2]; simp; try omega), hs'⟩
end Go.Proofs.Ytilcdghliigngaa
namespace Go.Proofs.Ytilcdghliigngaa
open Go.RowKit Go.Proofs.YtilcdghliigngaaGl Go.Proofs.YtilcdghliigngaaPm
set_option linter.unusedVariables false
set_option linter.unusedSimpArgs false
theorem q_cutN {P : Program} {w0 : World} {n : Nat} {D : List Deferred} {L : Env} {A : List Atom} {T E : TypeId} {x y : Operand} {sz : Nat} {kd : IntKind} (hT : elT P T = some E) (hz : szT P E = some sz) (hx : ev L x = some (.slice none 0 0)) (hy : ev L y = some (.int kd ((0 : Nat) : Int))) : Qv P w0 n D L A (.slice T x none (some y) none) (.slice none 0 0) := by
  have := q_cutH (P := P) (w0 := w0) (n := n) (D := D) (A := A) hT hz hx hy (Nat.le_refl 0)
  simpa using this
abbrev cat (ls : List NL) : List Int := ls.flatMap (·.2)
theorem cat_app {ls : List NL} {k : Nat} {x : NL} (hx : ls[k]? = some x) : cat (ls.take (k + 1)) = cat (ls.take k) ++ x.2 := by
  rw [cat, List.take_add_one, hx, List.flatMap_append]; simp
theorem cat_le {ls : List NL} {k : Nat} : (cat (ls.take k)).length ≤ (cat ls).length := by
  have : cat ls = cat (ls.take k) ++ cat (ls.drop k) := by rw [cat, ← List.flatMap_append, List.take_append_drop]
  rw [this, List.length_append]; omega
theorem growNil_c (n : Nat) (w : World) (hn : 1 ≤ n ∧ n ≤ 1000000) : Calls Try.prog 107 [.slice none 0 0, .int .i64 (n : Int)].toArray w fun e w' => ∃ p : Option Addr × Nat, e = .returned (.slice p.1 0 p.2) ∧ Sat w w' [row p.1 p.2 3 1 0 []] := by
  refine fstart Try.func107 rfl rfl (Sat.nil w) ?_
  refine Cd.seq ?_
  refine Cd.region ?_
  refine Ops.q (q_asg rfl) ?_
  refine Ops.to rfl ?_
  refine Cd.seq ?_
  refine Cd.seq ?_
  refine Cd.region ?_
  refine Ops.q (q_mv rfl) ?_
  refine Ops.q (q_cmp rfl rfl (c_nlt (by omega))) ?_
  refine Ops.to rfl ?_
  refine Cd.cond_f rfl ?_
  refine Cd.skipTo rfl ?_
  refine Cd.seq ?_
  refine Cd.seq ?_
  refine Cd.region ?_
  refine Ops.q (q_mv rfl) ?_
  refine Ops.q (q_mv rfl) ?_
  refine Ops.q (q_cap el_26 rfl) ?_
  refine Ops.q (q_mv rfl) ?_
  refine Ops.q (q_len esz_26 rfl) ?_
  refine Ops.q (q_ar (v := 0) rfl rfl (a_sub (by decide))) ?_
  refine Ops.q (q_ar (v := (n : Int)) rfl rfl (by rw [a_sub (by omega), Int.sub_zero])) ?_
  refine Ops.q (q_asg rfl) ?_
  refine Ops.to rfl ?_
  refine Cd.seq ?_
  refine Cd.region ?_
  refine Ops.q (q_mv rfl) ?_
  refine Ops.q (q_cmp rfl rfl (c_gt (by omega))) ?_
  refine Ops.to rfl ?_
  refine Cd.cond_t rfl ?_
  refine Cd.region ?_
  refine Ops.q (q_mv rfl) ?_
  refine Ops.q (q_mv rfl) ?_
  refine Ops.q (q_cap el_26 rfl) ?_
  refine Ops.q (q_cutN el_26 sz_3 rfl rfl) ?_
  refine Ops.q (q_mv rfl) ?_
  refine Ops.appz (m := n) el_26 iK_3 zsb_3 (by decide) rfl rfl (by omega) (by omega) (by omega) ?_
  intro zb zc hzc
  refine Ops.q (q_mv rfl) ?_
  refine Ops.q (q_len esz_26 rfl) ?_
  refine Ops.q (q_cutHP (k := 0) el_26 sz_3 rfl rfl (by omega)) ?_
  refine Ops.q (q_asg rfl) ?_
  refine Ops.to rfl ?_
  refine Cd.seq ?_
  refine Cd.region ?_
  refine Ops.q (q_mv rfl) ?_
  refine Ops.q (q_asg rfl) ?_
  refine Ops.to rfl ?_
  refine Cd.rt (fn := Try.f107) [.slice (some ⟨zb, 0, none⟩) 0 zc] (by with_reducible repeat (first | exact rq_here | apply rq_then | apply rq_block)) rfl ⟨rfl, trivial⟩ ?_
  intro w' hs'
  exact ⟨(some ⟨zb, 0, none⟩, zc), rfl, hs'⟩
theorem concat_c (nb no nc : Nat) (ls : List NL) (w : World) (hL : RoLL w (some ⟨nb, no, none⟩) ls) (hll : ls.length ≤ 1000) (hc : 1 ≤ (cat ls).length ∧ (cat ls).length ≤ 1000000) : Calls Try.prog 85 [.slice (some ⟨nb, no, none⟩) ls.length nc].toArray w fun e w' => ∃ p : Option Addr × Nat, e = .returned (.slice p.1 (cat ls).length p.2) ∧ Sat w w' [row p.1 p.2 3 1 (cat ls).length ((cat ls).flatMap eInt)] := by
  refine fstart Try.func85 rfl rfl (Sat.nil w) ?_
  refine Cd.seq ?_
  refine Cd.region ?_
  refine Ops.q (q_asg rfl) ?_
  refine Ops.to rfl ?_
  refine Cd.seq ?_
  refine Cd.region ?_
  refine Ops.q (q_asg rfl) ?_
  refine Ops.to rfl ?_
  refine Cd.seq ?_
  refine Cd.seq ?_
  refine Cd.region ?_
  refine Ops.q (q_mv rfl) ?_
  refine Ops.q (q_len esz_22 rfl) ?_
  refine Ops.q (q_mv rfl) ?_
  refine Ops.to rfl ?_
  refine Cd.block ?_
  refine Cd.lp (σ := Nat) (fun k => k ≤ ls.length) (fun k => [(0, .slice (some ⟨nb, no, none⟩) ls.length nc), (3, .int .i64 ((cat (ls.take k)).length : Int)), (9, .slice (some ⟨nb, no, none⟩) ls.length nc), (10, .int .i64 (ls.length : Int)), (11, .int .i64 (k : Int))]) (fun k => []) (fun k => ls.length - k) 0 (Nat.zero_le _) ⟨rfl, rfl, rfl, rfl, rfl, trivial⟩ (fun _ hs => hs) ?_
  intro k hI
  refine Cd.seq ?_
  refine Cd.region ?_
  by_cases hk1 : (k : Int) < (ls.length : Int)
  · refine Ops.q (q_cmp rfl rfl (c_lt hk1)) ?_
    obtain ⟨x1, hx2⟩ : ∃ x, ls[k]? = some x := ⟨_, List.getElem?_eq_getElem (by omega)⟩
    have hcl := cat_le (ls := ls) (k := k + 1)
    rw [cat_app hx2, List.length_append] at hcl
    have hxe := hL.2 x1 (List.mem_iff_getElem?.2 ⟨k, hx2⟩)
    refine Ops.to rfl ?_
    refine Cd.seq ?_
    refine Cd.cond_t rfl ?_
    refine Cd.skipTo rfl ?_
    refine Cd.seq ?_
    refine Cd.block ?_
    refine Cd.seq ?_
    refine Cd.region ?_
    refine Ops.q (q_ix (k := k) esz_22 rfl rfl (by omega)) ?_
    refine Ops.q (q_ldR isA_26 rfl (hL.1.at0 eNL_len hx2 rfl)) ?_
    refine Ops.q (q_asg rfl) ?_
    refine Ops.to rfl ?_
    refine Cd.seq ?_
    refine Cd.region ?_
    refine Ops.q (q_mv rfl) ?_
    refine Ops.q (q_mv rfl) ?_
    refine Ops.q (q_len esz_26 rfl) ?_
    refine Ops.q (q_ar rfl rfl (a_add (by omega))) ?_
    refine Ops.q (q_asg rfl) ?_
    refine Ops.to rfl ?_
    refine Cd.seq ?_
    refine Cd.region ?_
    refine Ops.q (q_mv rfl) ?_
    refine Ops.q (q_cmp rfl rfl (c_nlt (by omega))) ?_
    refine Ops.to rfl ?_
    refine Cd.cond_f rfl ?_
    refine Cd.skipTo rfl ?_
    refine Cd.region ?_
    refine Ops.q (q_ar rfl rfl (a_inc (by omega))) ?_
    refine Ops.q (q_mv rfl) ?_
    refine Ops.rnd (k + 1) rfl (by omega) (by omega) ⟨rfl, (by (try dsimp only); rw [cat_app hx2, List.length_append]; rfl), rfl, rfl, rfl, trivial⟩ (fun _ hs => hs) 
  · refine Ops.q (q_cmp rfl rfl (c_nlt (by omega))) ?_
    have hk1 : ls.take k = ls := List.take_of_length_le (by omega)
    rw [hk1]
    refine Ops.to rfl ?_
    refine Cd.seq ?_
    refine Cd.cond_f rfl ?_
    refine Cd.exitTo rfl ?_
    refine Cd.seq ?_
    refine Cd.region ?_
    refine Ops.q (q_mv rfl) ?_
    refine Ops.cl (α := Option Addr × Nat) (v := fun p => .slice p.1 0 p.2) (B := fun p => [row p.1 p.2 3 1 0 []]) en_107 rfl (fun w hs => growNil_c (cat ls).length w (by omega)) ?_
    rintro ⟨ga, gc⟩
    refine Ops.q (q_asg rfl) ?_
    refine Ops.to rfl ?_
    refine Cd.seq ?_
    refine Cd.seq ?_
    refine Cd.region ?_
    refine Ops.q (q_mv rfl) ?_
    refine Ops.q (q_len esz_22 rfl) ?_
    refine Ops.q (q_mv rfl) ?_
    refine Ops.to rfl ?_
    refine Cd.block ?_
    refine Cd.lp (σ := Nat × Option Addr × Nat) (fun s => s.1 ≤ ls.length) (fun s => [(25, .slice (some ⟨nb, no, none⟩) ls.length nc), (26, .int .i64 (ls.length : Int)), (27, .int .i64 (s.1 : Int)), (6, .slice s.2.1 ((cat (ls.take s.1)).length) s.2.2)]) (fun s => [row s.2.1 s.2.2 3 1 ((cat (ls.take s.1)).length) ((cat (ls.take s.1)).flatMap eInt)]) (fun s => ls.length - s.1) (0, ga, gc) (Nat.zero_le _) ⟨rfl, rfl, rfl, rfl, trivial⟩ (fun _ hs => hs) ?_
    rintro ⟨k, pa, pc⟩ hI
    dsimp only at hI
    change Cd _ _ _ _ _ _ _ [(25, .slice (some ⟨nb, no, none⟩) ls.length nc), (26, .int .i64 (ls.length : Int)), (27, .int .i64 (k : Int)), (6, .slice pa ((cat (ls.take k)).length) pc)] ([row pa pc 3 1 ((cat (ls.take k)).length) ((cat (ls.take k)).flatMap eInt)])
    refine Cd.seq ?_
    refine Cd.region ?_
    by_cases hk2 : (k : Int) < (ls.length : Int)
    · refine Ops.q (q_cmp rfl rfl (c_lt hk2)) ?_
      obtain ⟨x3, hx4⟩ : ∃ x, ls[k]? = some x := ⟨_, List.getElem?_eq_getElem (by omega)⟩
      have hcl := cat_le (ls := ls) (k := k + 1)
      rw [cat_app hx4, List.length_append] at hcl
      have hxe := hL.2 x3 (List.mem_iff_getElem?.2 ⟨k, hx4⟩)
      refine Ops.to rfl ?_
      refine Cd.seq ?_
      refine Cd.cond_t rfl ?_
      refine Cd.skipTo rfl ?_
      refine Cd.seq ?_
      refine Cd.block ?_
      refine Cd.seq ?_
      refine Cd.region ?_
      refine Ops.q (q_ix (k := k) esz_22 rfl rfl (by omega)) ?_
      refine Ops.q (q_ldR isA_26 rfl (hL.1.at0 eNL_len hx4 rfl)) ?_
      refine Ops.q (q_asg rfl) ?_
      refine Ops.to rfl ?_
      refine Cd.region ?_
      refine Ops.q (q_mv rfl) ?_
      refine Ops.q (q_mv rfl) ?_
      refine Ops.app (news := (x3.2.flatMap eInt)) el_26 zsb_3 (by decide) rfl rfl (fun _ hs => RoL.later hxe hs.below) (fun _ hs => hs) (fun _ _ => .here) (fm_length eInt_len _) (fm_one eInt_one _) (by omega) (by omega) ?_
      intro qa qc
      refine Ops.q (q_asg rfl) ?_
      refine Ops.to rfl ?_
      refine Cd.region ?_
      refine Ops.q (q_ar rfl rfl (a_inc (by omega))) ?_
      refine Ops.q (q_mv rfl) ?_
      refine Ops.rnd ((k + 1, qa, qc)) rfl (by dsimp only; exact (by omega)) (by dsimp only; omega) ⟨rfl, rfl, rfl, (by (try dsimp only); rw [cat_app hx4, List.length_append]; rfl), trivial⟩ (fun _ hs => by (try dsimp only); rw [cat_app hx4, fm_app, List.length_append]; exact hs) 
    · refine Ops.q (q_cmp rfl rfl (c_nlt (by omega))) ?_
      refine Ops.to rfl ?_
      refine Cd.seq ?_
      refine Cd.cond_f rfl ?_
      refine Cd.exitTo rfl ?_
      refine Cd.seq ?_
      refine Cd.region ?_
      refine Ops.q (q_mv rfl) ?_
      refine Ops.q (q_asg rfl) ?_
      refine Ops.to rfl ?_
      refine Cd.rt (fn := Try.f85) [.slice pa ((cat (ls.take k)).length) pc] (by with_reducible repeat (first | exact rq_here | apply rq_then | apply rq_block)) rfl ⟨rfl, trivial⟩ ?_
      intro w' hs'
      rw [List.take_of_length_le (show ls.length ≤ k by omega)] at hs'
      exact ⟨(pa, pc), by rw [List.take_of_length_le (show ls.length ≤ k by omega)]; rfl, hs'⟩
end Go.Proofs.Ytilcdghliigngaa
namespace Go.Proofs.Ytilcdghliigngaa
open Go.RowKit Go.Proofs.YtilcdghliigngaaGl Go.Proofs.YtilcdghliigngaaPm
set_option linter.unusedVariables false
set_option linter.unusedSimpArgs false
def stE (n : Nat) (x : Int) : Int := if wi x 0 ((n : Int) - 1) then 0 else 4
def autoE (nx : List (List Int)) (st : Int) (al : Nat) : Int :=
  if wi (nx.length : Int) 1 32 then
    if al = nx.length then
      if wi ((nx.headD []).length : Int) 1 16 then
        if ∃ r ∈ nx, ¬ r.length = (nx.headD []).length then 13 else firstE (stE nx.length) (nx.flatten ++ [st])
      else 3
    else 13
  else 3
theorem cat_len {ls : List NL} {c : Nat} (h : ∀ y ∈ ls, y.2.length = c) : (cat ls).length = ls.length * c := by
  induction ls with
  | nil => simp
  | cons x ls ih =>
    rw [cat, List.flatMap_cons, List.length_append, h x (.head _)]
    have := ih (fun y hy => h y (.tail _ hy))
    rw [cat] at this
    rw [this, List.length_cons, Nat.succ_mul]; omega
theorem cat_flat (ls : List NL) : (ls.map (·.2)).flatten = cat ls := by rw [cat, List.flatMap_def]
theorem acheck_c (na : Option Addr) (nc : Nat) (ls : List NL) (st : Int) (aa : Option Addr) (al ac : Nat) (w : World) (hL : RoLL w na ls) : Calls Try.prog 47 [.agg [.slice na ls.length nc, .int .i64 st, .slice aa al ac].toArray].toArray w fun e w' => e = .returned (.int .i64 (autoE (ls.map (·.2)) st al)) ∧ Sat w w' [] := by
  refine fstart Try.func47 rfl rfl (Sat.nil w) ?_
  refine Cd.seq ?_
  refine Cd.region ?_
  refine Ops.box [.slice na ls.length nc, .int .i64 st, .slice aa al ac] rfl rfl ?_
  intro b1
  refine Ops.q (q_asg rfl) ?_
  refine Ops.to rfl ?_
  refine Cd.seq ?_
  refine Cd.block ?_
  refine Cd.seq ?_
  refine Cd.region ?_
  refine Ops.q (q_fa fo_36_0 rfl) ?_
  refine Ops.q (q_ldB isA_22 rfl .here rfl) ?_
  refine Ops.q (q_len esz_22 rfl) ?_
  by_cases h2 : wi (ls.length : Int) 1 32
  · refine Ops.cp en_57 rfl (fun w hs => dT (in_c _ _ _ w) h2) ?_
    refine Ops.q (q_not rfl) ?_
    refine Ops.q (q_asg rfl) ?_
    refine Ops.to rfl ?_
    refine Cd.cond_f rfl ?_
    refine Cd.seq ?_
    refine Cd.region ?_
    have hw1 : wi (ls.length : Int) 1 32 := h2
    have hw1' := hw1
    unfold wi at hw1'
    obtain ⟨l0, hl0⟩ : ∃ x, ls[0]? = some x := ⟨_, List.getElem?_eq_getElem (by omega)⟩
    obtain ⟨nb, no, rfl⟩ := RoL.pos hL.1 eNL_len hl0
    have hhd : (ls.map (·.2)).headD [] = l0.2 := by cases ls with | nil => simp at hl0 | cons x xs => simp at hl0; subst hl0; rfl
    refine Ops.q (q_fa fo_36_2 rfl) ?_
    refine Ops.q (q_ldB isA_23 rfl .here rfl) ?_
    refine Ops.q (q_len esz_23 rfl) ?_
    refine Ops.q (q_fa fo_36_0 rfl) ?_
    refine Ops.q (q_ldB isA_22 rfl .here rfl) ?_
    refine Ops.q (q_len esz_22 rfl) ?_
    by_cases h3 : (al : Int) = (ls.length : Int)
    · refine Ops.q (q_cmp rfl rfl (c_nne h3)) ?_
      refine Ops.q (q_asg rfl) ?_
      refine Ops.to rfl ?_
      refine Cd.cond_f rfl ?_
      refine Cd.seq ?_
      refine Cd.region ?_
      refine Ops.q (q_fa fo_36_0 rfl) ?_
      refine Ops.q (q_ldB isA_22 rfl .here rfl) ?_
      refine Ops.q (q_ix (k := 0) esz_22 rfl rfl (by omega)) ?_
      refine Ops.q (q_ldR isA_26 rfl (hL.1.at0 eNL_len hl0 rfl)) ?_
      refine Ops.q (q_len esz_26 rfl) ?_
      by_cases h4 : wi (l0.2.length : Int) 1 16
      · refine Ops.cp en_57 rfl (fun w hs => dT (in_c _ _ _ w) h4) ?_
        refine Ops.q (q_not rfl) ?_
        refine Ops.q (q_asg rfl) ?_
        refine Ops.to rfl ?_
        refine Cd.cond_f rfl ?_
        refine Cd.seq ?_
        refine Cd.region ?_
        have hw3 : wi (l0.2.length : Int) 1 16 := h4
        refine Ops.q (q_fa fo_36_0 rfl) ?_
        refine Ops.q (q_ldB isA_22 rfl .here rfl) ?_
        refine Ops.q (q_mkf rfl rfl) ?_
        by_cases hex : ∃ y ∈ ls, ¬ y.2.length = l0.2.length
        · refine Ops.cm (α := Unit) (v := fun _ => .bool true) (A' := fun _ => [blk b1 36 [.slice (some ⟨nb, no, none⟩) ls.length nc, .int .i64 st, .slice aa al ac]]) en_83 rfl (fun w hs => bT (containsFunc_c _ _ _ _ ls st _ al _ l0 _ w _ hL hl0 (by omega) (by omega) ((hs.pull .here))) hex) ?_
          intro _
          refine Ops.q (q_asg rfl) ?_
          refine Ops.to rfl ?_
          refine Cd.cond_t rfl ?_
          refine Cd.seq ?_
          refine Cd.region ?_
          refine Ops.q (q_asg rfl) ?_
          refine Ops.to rfl ?_
          refine Cd.rt (fn := Try.f47) [.int .i64 13] (by with_reducible repeat (first | exact rq_here | apply rq_then | apply rq_block)) rfl ⟨rfl, trivial⟩ ?_
          intro w' hs'
          exact ⟨by unfold autoE; rw [if_pos (by simpa using hw1), if_pos (by simp only [List.length_map]; omega), hhd, if_pos hw3, if_pos (by obtain ⟨y, hy, hne⟩ := hex; exact ⟨y.2, List.mem_map_of_mem hy, hne⟩)]; rfl, hs'.none⟩
        · refine Ops.cm (α := Unit) (v := fun _ => .bool false) (A' := fun _ => [blk b1 36 [.slice (some ⟨nb, no, none⟩) ls.length nc, .int .i64 st, .slice aa al ac]]) en_83 rfl (fun w hs => bF (containsFunc_c _ _ _ _ ls st _ al _ l0 _ w _ hL hl0 (by omega) (by omega) ((hs.pull .here))) hex) ?_
          intro _
          have hall : ∀ y ∈ ls, y.2.length = l0.2.length := fun y hy => Decidable.of_not_not (fun hne => hex ⟨y, hy, hne⟩)
          have hcl := cat_len hall
          have hcb : 1 ≤ (cat ls).length ∧ (cat ls).length ≤ 512 := by rw [hcl]; unfold wi at hw3; exact ⟨Nat.mul_pos (by omega) (by omega), Nat.le_trans (Nat.mul_le_mul (show ls.length ≤ 32 by omega) (show l0.2.length ≤ 16 by omega)) (by decide)⟩
          refine Ops.q (q_asg rfl) ?_
          refine Ops.to rfl ?_
          refine Cd.cond_f rfl ?_
          refine Cd.skipTo rfl ?_
          refine Cd.seq ?_
          refine Cd.region ?_
          have hal : (cat ls ++ [st]).length = (cat ls).length + 1 := by rw [List.length_append]; rfl
          refine Ops.q (q_fa fo_36_0 rfl) ?_
          refine Ops.q (q_ldB isA_22 rfl .here rfl) ?_
          refine Ops.q (q_len esz_22 rfl) ?_
          refine Ops.cl (α := Nat) (v := fun b => .func (.func 92) #[] #[.pointer (some ⟨b, 0, none⟩)]) (B := fun b => [blk b 3 [.int .i64 (ls.length : Int)]]) en_65 rfl (fun w hs => below_c (ls.length : Int) w) ?_
          intro bl5
          refine Ops.q (q_asg rfl) ?_
          refine Ops.to rfl ?_
          refine Cd.seq ?_
          refine Cd.seq ?_
          refine Cd.draw rfl (by kernel_rfl) (.cons (.there .here) .nil) ?_
          intro F6 St7 hP8 hF9 hR10
          refine Dr.q (i := 0) hP8 rfl (by kernel_rfl) (q_fa fo_36_0 rfl) ?_
          refine Dr.q (i := 1) hP8 rfl (by kernel_rfl) (q_ldB isA_22 rfl .here rfl) ?_
          refine Dr.q (i := 3) hP8 rfl (by kernel_rfl) (q_fa fo_36_1 rfl) ?_
          refine Dr.q (i := 4) hP8 rfl (by kernel_rfl) (q_ldB isA_3 rfl .here rfl) ?_
          refine Dr.q (i := 8) hP8 rfl (by kernel_rfl) (q_mv rfl) ?_
          refine Dr.e2 (i := 2) (j := 5) rfl rfl (by kernel_rfl) ?_ ?_
          · refine Ops.cl (α := Option Addr × Nat) (v := fun p => .slice p.1 (cat ls).length p.2) (B := fun p => [row p.1 p.2 3 1 (cat ls).length ((cat ls).flatMap eInt)]) en_85 rfl (fun w hs => concat_c _ _ _ ls w (hL.later hs.below) (by omega) (by omega)) ?_
            rintro ⟨ca11, cc12⟩
            refine Dr.back (fun _ hs => hF9 (.there .here) hs) ?_
            refine Dr.e (i := 5) rfl (by kernel_rfl) ?_
            refine Ops.lit [.int .i64 st] el_26 zsb_3 rfl rfl ⟨by decide, by decide⟩ rfl ?_
            intro b13
            refine Dr.back (fun _ hs => hF9 (.there (.there .here)) hs) ?_
            refine Dr.e (i := 6) rfl (by kernel_rfl) ?_
            refine Ops.app (news := [.int .i64 st]) el_26 zsb_3 (by decide) rfl rfl (fun _ hs => hs.ownRo .here) (fun _ hs => (hs.pull .here).drop) (fun _ _ => .here) rfl (one rfl) (by omega) (by omega) ?_
            intro a14 c15
            refine Dr.back (fun _ hs => hF9 (.there .here) hs) ?_
            refine Dr.q (i := 7) hP8 rfl (by kernel_rfl) (q_len esz_26 rfl) ?_
            refine Dr.tail 9 (by kernel_rfl) ?_
            refine Ops.sat ?_ (fun _ hs => hR10 (.there .here) hs)
            refine Ops.to rfl ?_
            refine Cd.block ?_
            refine Cd.lp (σ := Nat) (fun k => k ≤ (cat ls ++ [st]).length ∧ firstE (stE ls.length) ((cat ls ++ [st]).drop k) = firstE (stE ls.length) (cat ls ++ [st])) (fun k => [(3, .func (.func 92) #[] #[.pointer (some ⟨bl5, 0, none⟩)]), (43, .slice a14 ((cat ls ++ [st]).length) c15), (44, .int .i64 ((cat ls ++ [st]).length : Int)), (45, .int .i64 (k : Int))]) (fun k => [blk bl5 3 [.int .i64 (ls.length : Int)], row a14 c15 3 1 ((cat ls ++ [st]).length) ((cat ls ++ [st]).flatMap eInt)]) (fun k => (cat ls ++ [st]).length - k) 0 ⟨Nat.zero_le _, rfl⟩ ⟨rfl, (by rw [hal]; rfl), (by rw [hal]; rfl), rfl, trivial⟩ (fun _ hs => by have h1 := (((hs.pull (.there .here)).pull (.there (.there .here))).pull (.there (.there .here))).drop; (try dsimp only); rw [hal, fm_app]; exact h1) ?_
            intro k hI
            have hI1 := hI.1
            refine Cd.seq ?_
            refine Cd.region ?_
            by_cases hk : (k : Int) < ((cat ls ++ [st]).length : Int)
            · refine Ops.q (q_cmp rfl rfl (c_lt hk)) ?_
              obtain ⟨x16, hx17⟩ : ∃ x, (cat ls ++ [st])[k]? = some x := ⟨_, List.getElem?_eq_getElem (by omega)⟩
              refine Ops.rowpos (.there .here) (by omega) ?_
              rintro rb18 rfl
              refine Ops.to rfl ?_
              refine Cd.seq ?_
              refine Cd.cond_t rfl ?_
              refine Cd.skipTo rfl ?_
              refine Cd.seq ?_
              refine Cd.block ?_
              refine Cd.seq ?_
              refine Cd.region ?_
              refine Ops.q (q_ix (k := k) esz_26 rfl rfl (by omega)) ?_
              refine Ops.q (q_ldO isA_3 rfl (.there .here) (fm_at0 eInt_len hx17 rfl)) ?_
              refine Ops.q (q_asg rfl) ?_
              refine Ops.to rfl ?_
              refine Cd.seq ?_
              refine Cd.region ?_
              refine Ops.q (q_mv rfl) ?_
              refine Ops.q (q_mv rfl) ?_
              by_cases h19 : wi x16 0 ((ls.length : Int) - 1)
              · refine Ops.cv (α := Unit) (k := 92) (first := []) (caps := [.pointer (some ⟨bl5, 0, none⟩)]) (vs := [.int .i64 x16]) (v := fun _ => .bool true) (A' := fun _ => [blk bl5 3 [.int .i64 (ls.length : Int)], row (some ⟨rb18, 0, none⟩) c15 3 1 ((cat ls ++ [st]).length) ((cat ls ++ [st]).flatMap eInt)]) en_92 rfl rfl (fun w hs => bT (below1_c bl5 x16 (ls.length : Int) _ w _ (by omega) (((hs.pull (.there .here)).pull (.there .here)))) h19) ?_
                intro _
                refine Ops.q (q_not rfl) ?_
                refine Ops.to rfl ?_
                refine Cd.cond_f rfl ?_
                refine Cd.skipTo rfl ?_
                refine Cd.region ?_
                refine Ops.q (q_ar rfl rfl (a_inc (by omega))) ?_
                refine Ops.q (q_mv rfl) ?_
                refine Ops.rnd (k + 1) rfl (⟨by omega, by rw [← hI.2]; exact (firstE_step hx17 (by unfold stE; rw [if_pos h19])).symm⟩) (by omega) ⟨rfl, rfl, rfl, rfl, trivial⟩ (fun _ hs => ((hs.pull (.there .here)).pull (.there .here))) 
              · refine Ops.cv (α := Unit) (k := 92) (first := []) (caps := [.pointer (some ⟨bl5, 0, none⟩)]) (vs := [.int .i64 x16]) (v := fun _ => .bool false) (A' := fun _ => [blk bl5 3 [.int .i64 (ls.length : Int)], row (some ⟨rb18, 0, none⟩) c15 3 1 ((cat ls ++ [st]).length) ((cat ls ++ [st]).flatMap eInt)]) en_92 rfl rfl (fun w hs => bF (below1_c bl5 x16 (ls.length : Int) _ w _ (by omega) (((hs.pull (.there .here)).pull (.there .here)))) h19) ?_
                intro _
                refine Ops.q (q_not rfl) ?_
                refine Ops.to rfl ?_
                refine Cd.cond_t rfl ?_
                refine Cd.seq ?_
                refine Cd.region ?_
                refine Ops.q (q_asg rfl) ?_
                refine Ops.to rfl ?_
                refine Cd.rt (fn := Try.f47) [.int .i64 4] (by with_reducible repeat (first | exact rq_here | apply rq_then | apply rq_block)) rfl ⟨rfl, trivial⟩ ?_
                intro w' hs'
                have hT : autoE (ls.map (·.2)) st al = firstE (stE ls.length) (cat ls ++ [st]) := by unfold autoE; rw [if_pos (by simpa using hw1), if_pos (by simp only [List.length_map]; omega), hhd, if_pos hw3, if_neg (by rintro ⟨r, hr, hne⟩; obtain ⟨y, hy, rfl⟩ := List.mem_map.1 hr; exact hex ⟨y, hy, hne⟩), cat_flat, List.length_map]
                exact ⟨by rw [hT, ← hI.2, firstE_stop hx17 (by unfold stE; rw [if_neg h19]; decide)]; unfold stE; rw [if_neg h19]; rfl, hs'.none⟩
            · refine Ops.q (q_cmp rfl rfl (c_nlt (by omega))) ?_
              refine Ops.to rfl ?_
              refine Cd.seq ?_
              refine Cd.cond_f rfl ?_
              refine Cd.exitTo rfl ?_
              refine Cd.seq ?_
              refine Cd.region ?_
              refine Ops.q (q_asg rfl) ?_
              refine Ops.to rfl ?_
              refine Cd.rt (fn := Try.f47) [.int .i64 0] (by with_reducible repeat (first | exact rq_here | apply rq_then | apply rq_block)) rfl ⟨rfl, trivial⟩ ?_
              intro w' hs'
              have hT : autoE (ls.map (·.2)) st al = firstE (stE ls.length) (cat ls ++ [st]) := by unfold autoE; rw [if_pos (by simpa using hw1), if_pos (by simp only [List.length_map]; omega), hhd, if_pos hw3, if_neg (by rintro ⟨r, hr, hne⟩; obtain ⟨y, hy, rfl⟩ := List.mem_map.1 hr; exact hex ⟨y, hy, hne⟩), cat_flat, List.length_map]
              exact ⟨by rw [hT, ← hI.2, firstE_end (by omega)]; rfl, hs'.none⟩
          · refine Ops.lit [.int .i64 st] el_26 zsb_3 rfl rfl ⟨by decide, by decide⟩ rfl ?_
            intro b20
            refine Dr.back (fun _ hs => hF9 (.there .here) hs) ?_
            refine Dr.e (i := 2) rfl (by kernel_rfl) ?_
            refine Ops.cl (α := Option Addr × Nat) (v := fun p => .slice p.1 (cat ls).length p.2) (B := fun p => [row p.1 p.2 3 1 (cat ls).length ((cat ls).flatMap eInt)]) en_85 rfl (fun w hs => concat_c _ _ _ ls w (hL.later hs.below) (by omega) (by omega)) ?_
            rintro ⟨ca21, cc22⟩
            refine Dr.back (fun _ hs => hF9 (.there (.there .here)) hs) ?_
            refine Dr.e (i := 6) rfl (by kernel_rfl) ?_
            refine Ops.app (news := [.int .i64 st]) el_26 zsb_3 (by decide) rfl rfl (fun _ hs => hs.ownRo (.there .here)) (fun _ hs => (hs.pull (.there .here)).drop) (fun _ _ => .here) rfl (one rfl) (by omega) (by omega) ?_
            intro a23 c24
            refine Dr.back (fun _ hs => hF9 (.there .here) hs) ?_
            refine Dr.q (i := 7) hP8 rfl (by kernel_rfl) (q_len esz_26 rfl) ?_
            refine Dr.tail 9 (by kernel_rfl) ?_
            refine Ops.sat ?_ (fun _ hs => hR10 (.there .here) hs)
            refine Ops.to rfl ?_
            refine Cd.block ?_
            refine Cd.lp (σ := Nat) (fun k => k ≤ (cat ls ++ [st]).length ∧ firstE (stE ls.length) ((cat ls ++ [st]).drop k) = firstE (stE ls.length) (cat ls ++ [st])) (fun k => [(3, .func (.func 92) #[] #[.pointer (some ⟨bl5, 0, none⟩)]), (43, .slice a23 ((cat ls ++ [st]).length) c24), (44, .int .i64 ((cat ls ++ [st]).length : Int)), (45, .int .i64 (k : Int))]) (fun k => [blk bl5 3 [.int .i64 (ls.length : Int)], row a23 c24 3 1 ((cat ls ++ [st]).length) ((cat ls ++ [st]).flatMap eInt)]) (fun k => (cat ls ++ [st]).length - k) 0 ⟨Nat.zero_le _, rfl⟩ ⟨rfl, (by rw [hal]; rfl), (by rw [hal]; rfl), rfl, trivial⟩ (fun _ hs => by have h1 := (((hs.pull (.there .here)).pull (.there (.there .here))).pull (.there (.there .here))).drop; (try dsimp only); rw [hal, fm_app]; exact h1) ?_
            intro k hI
            have hI1 := hI.1
            refine Cd.seq ?_
            refine Cd.region ?_
            by_cases hk : (k : Int) < ((cat ls ++ [st]).length : Int)
            · refine Ops.q (q_cmp rfl rfl (c_lt hk)) ?_
              obtain ⟨x25, hx26⟩ : ∃ x, (cat ls ++ [st])[k]? = some x := ⟨_, List.getElem?_eq_getElem (by omega)⟩
              refine Ops.rowpos (.there .here) (by omega) ?_
              rintro rb27 rfl
              refine Ops.to rfl ?_
              refine Cd.seq ?_
              refine Cd.cond_t rfl ?_
              refine Cd.skipTo rfl ?_
              refine Cd.seq ?_
              refine Cd.block ?_
              refine Cd.seq ?_
              refine Cd.region ?_
              refine Ops.q (q_ix (k := k) esz_26 rfl rfl (by omega)) ?_
              refine Ops.q (q_ldO isA_3 rfl (.there .here) (fm_at0 eInt_len hx26 rfl)) ?_
              refine Ops.q (q_asg rfl) ?_
              refine Ops.to rfl ?_
              refine Cd.seq ?_
              refine Cd.region ?_
              refine Ops.q (q_mv rfl) ?_
              refine Ops.q (q_mv rfl) ?_
              by_cases h28 : wi x25 0 ((ls.length : Int) - 1)
              · refine Ops.cv (α := Unit) (k := 92) (first := []) (caps := [.pointer (some ⟨bl5, 0, none⟩)]) (vs := [.int .i64 x25]) (v := fun _ => .bool true) (A' := fun _ => [blk bl5 3 [.int .i64 (ls.length : Int)], row (some ⟨rb27, 0, none⟩) c24 3 1 ((cat ls ++ [st]).length) ((cat ls ++ [st]).flatMap eInt)]) en_92 rfl rfl (fun w hs => bT (below1_c bl5 x25 (ls.length : Int) _ w _ (by omega) (((hs.pull (.there .here)).pull (.there .here)))) h28) ?_
                intro _
                refine Ops.q (q_not rfl) ?_
                refine Ops.to rfl ?_
                refine Cd.cond_f rfl ?_
                refine Cd.skipTo rfl ?_
                refine Cd.region ?_
                refine Ops.q (q_ar rfl rfl (a_inc (by omega))) ?_
                refine Ops.q (q_mv rfl) ?_
                refine Ops.rnd (k + 1) rfl (⟨by omega, by rw [← hI.2]; exact (firstE_step hx26 (by unfold stE; rw [if_pos h28])).symm⟩) (by omega) ⟨rfl, rfl, rfl, rfl, trivial⟩ (fun _ hs => ((hs.pull (.there .here)).pull (.there .here))) 
              · refine Ops.cv (α := Unit) (k := 92) (first := []) (caps := [.pointer (some ⟨bl5, 0, none⟩)]) (vs := [.int .i64 x25]) (v := fun _ => .bool false) (A' := fun _ => [blk bl5 3 [.int .i64 (ls.length : Int)], row (some ⟨rb27, 0, none⟩) c24 3 1 ((cat ls ++ [st]).length) ((cat ls ++ [st]).flatMap eInt)]) en_92 rfl rfl (fun w hs => bF (below1_c bl5 x25 (ls.length : Int) _ w _ (by omega) (((hs.pull (.there .here)).pull (.there .here)))) h28) ?_
                intro _
                refine Ops.q (q_not rfl) ?_
                refine Ops.to rfl ?_
                refine Cd.cond_t rfl ?_
                refine Cd.seq ?_
                refine Cd.region ?_
                refine Ops.q (q_asg rfl) ?_
                refine Ops.to rfl ?_
                refine Cd.rt (fn := Try.f47) [.int .i64 4] (by with_reducible repeat (first | exact rq_here | apply rq_then | apply rq_block)) rfl ⟨rfl, trivial⟩ ?_
                intro w' hs'
                have hT : autoE (ls.map (·.2)) st al = firstE (stE ls.length) (cat ls ++ [st]) := by unfold autoE; rw [if_pos (by simpa using hw1), if_pos (by simp only [List.length_map]; omega), hhd, if_pos hw3, if_neg (by rintro ⟨r, hr, hne⟩; obtain ⟨y, hy, rfl⟩ := List.mem_map.1 hr; exact hex ⟨y, hy, hne⟩), cat_flat, List.length_map]
                exact ⟨by rw [hT, ← hI.2, firstE_stop hx26 (by unfold stE; rw [if_neg h28]; decide)]; unfold stE; rw [if_neg h28]; rfl, hs'.none⟩
            · refine Ops.q (q_cmp rfl rfl (c_nlt (by omega))) ?_
              refine Ops.to rfl ?_
              refine Cd.seq ?_
              refine Cd.cond_f rfl ?_
              refine Cd.exitTo rfl ?_
              refine Cd.seq ?_
              refine Cd.region ?_
              refine Ops.q (q_asg rfl) ?_
              refine Ops.to rfl ?_
              refine Cd.rt (fn := Try.f47) [.int .i64 0] (by with_reducible repeat (first | exact rq_here | apply rq_then | apply rq_block)) rfl ⟨rfl, trivial⟩ ?_
              intro w' hs'
              have hT : autoE (ls.map (·.2)) st al = firstE (stE ls.length) (cat ls ++ [st]) := by unfold autoE; rw [if_pos (by simpa using hw1), if_pos (by simp only [List.length_map]; omega), hhd, if_pos hw3, if_neg (by rintro ⟨r, hr, hne⟩; obtain ⟨y, hy, rfl⟩ := List.mem_map.1 hr; exact hex ⟨y, hy, hne⟩), cat_flat, List.length_map]
              exact ⟨by rw [hT, ← hI.2, firstE_end (by omega)]; rfl, hs'.none⟩
      · refine Ops.cp en_57 rfl (fun w hs => dF (in_c _ _ _ w) h4) ?_
        refine Ops.q (q_not rfl) ?_
        refine Ops.q (q_asg rfl) ?_
        refine Ops.to rfl ?_
        refine Cd.cond_t rfl ?_
        refine Cd.seq ?_
        refine Cd.region ?_
        refine Ops.q (q_asg rfl) ?_
        refine Ops.to rfl ?_
        refine Cd.rt (fn := Try.f47) [.int .i64 3] (by with_reducible repeat (first | exact rq_here | apply rq_then | apply rq_block)) rfl ⟨rfl, trivial⟩ ?_
        intro w' hs'
        exact ⟨by unfold autoE; rw [if_pos (by simpa using hw1), if_pos (by simp only [List.length_map]; omega), hhd, if_neg h4]; rfl, hs'.none⟩
    · refine Ops.q (q_cmp rfl rfl (c_ne h3)) ?_
      refine Ops.q (q_asg rfl) ?_
      refine Ops.to rfl ?_
      refine Cd.cond_t rfl ?_
      refine Cd.seq ?_
      refine Cd.region ?_
      refine Ops.q (q_asg rfl) ?_
      refine Ops.to rfl ?_
      refine Cd.rt (fn := Try.f47) [.int .i64 13] (by with_reducible repeat (first | exact rq_here | apply rq_then | apply rq_block)) rfl ⟨rfl, trivial⟩ ?_
      intro w' hs'
      exact ⟨by unfold autoE; rw [if_pos (by simpa using hw1), if_neg (by simp only [List.length_map]; omega)]; rfl, hs'.none⟩
  · refine Ops.cp en_57 rfl (fun w hs => dF (in_c _ _ _ w) h2) ?_
    refine Ops.q (q_not rfl) ?_
    refine Ops.q (q_asg rfl) ?_
    refine Ops.to rfl ?_
    refine Cd.cond_t rfl ?_
    refine Cd.seq ?_
    refine Cd.region ?_
    refine Ops.q (q_asg rfl) ?_
    refine Ops.to rfl ?_
    refine Cd.rt (fn := Try.f47) [.int .i64 3] (by with_reducible repeat (first | exact rq_here | apply rq_then | apply rq_block)) rfl ⟨rfl, trivial⟩ ?_
    intro w' hs'
    exact ⟨by unfold autoE; rw [if_neg (by simpa using h2)]; rfl, hs'.none⟩
end Go.Proofs.Ytilcdghliigngaa
namespace Go.Proofs.Ytilcdghliigngaa
open Go.RowKit Go.Proofs.YtilcdghliigngaaGl Go.Proofs.YtilcdghliigngaaPm
set_option linter.unusedVariables false
set_option linter.unusedSimpArgs false
def cellS (s k q c : Nat) (to : Int) : List Syn := [⟨(q : Int), ((s + k * q + c : Nat) : Int), 1, 1⟩, ⟨-1 - (c : Int), ((s + k * q + c : Nat) : Int), 1, 2⟩, ⟨((s + k * q + c : Nat) : Int), to, 1, 2⟩]
def cellsTo (s k q : Nat) (r : List Int) (j : Nat) : List Syn := (List.range j).flatMap fun c => cellS s k q c (r.getD c 0)
def rowsTo (s k : Nat) (nx : List (List Int)) (i : Nat) : List Syn := (List.range i).flatMap fun q => cellsTo s k q (nx.getD q []) (nx.getD q []).length
def accS (s k : Nat) (acc : List Bool) (q : Nat) : List Syn := if acc.getD q false then [⟨(q : Int), ((s + s * k : Nat) : Int), 1, 1⟩] else []
def accTo (s k : Nat) (acc : List Bool) (i : Nat) : List Syn := (List.range i).flatMap (accS s k acc)
theorem accS_len (s k : Nat) (acc : List Bool) (q : Nat) : (accS s k acc q).length ≤ 1 := by unfold accS; split <;> simp
def machineN (nx : List (List Int)) (st : Int) (acc : List Bool) : NetP :=
  ⟨(((List.replicate nx.length (1 : Int)).map (setTh (gateP 0)) ++ (List.replicate (nx.length * (nx.headD []).length) (2 : Int)).map (setTh (gateP 0))) ++ [(1 : Int)].map (setTh (gateP 0))), (((nx.headD []).length + 1 : Nat) : Int),
    ([⟨-1 - ((nx.headD []).length : Int), st, 1, 1⟩] ++ rowsTo nx.length (nx.headD []).length nx nx.length) ++ accTo nx.length (nx.headD []).length acc acc.length⟩
def machineP (nx : List (List Int)) (st : Int) (acc : List Bool) : Except Int NetP :=
  if autoE nx st acc.length ≠ 0 then .error (autoE nx st acc.length) else .ok (machineN nx st acc)
theorem getD_at {α : Type} {xs : List α} {k : Nat} {x d : α} (h : xs[k]? = some x) : xs.getD k d = x := by simp [List.getD, h]
theorem cellS_len (s k q c : Nat) (to : Int) : (cellS s k q c to).length = 3 := rfl
theorem cellsTo_len (s k q : Nat) (r : List Int) (j : Nat) : (cellsTo s k q r j).length = j * 3 := rf_len (fun _ => cellS_len ..) j
theorem autoE_ok {nx : List (List Int)} {st : Int} {al : Nat} (h : autoE nx st al = 0) : wi (nx.length : Int) 1 32 ∧ al = nx.length ∧ wi ((nx.headD []).length : Int) 1 16 ∧ (∀ r ∈ nx, r.length = (nx.headD []).length) ∧ ∀ x ∈ nx.flatten ++ [st], wi x 0 ((nx.length : Int) - 1) := by
  unfold autoE at h
  split at h
  · rename_i h1
    split at h
    · rename_i h2
      split at h
      · rename_i h3
        split at h
        · cases h
        · rename_i h4
          refine ⟨h1, h2, h3, fun r hr => Decidable.of_not_not fun hne => h4 ⟨r, hr, hne⟩, fun x hx => ?_⟩
          have := firstE_zero h x hx
          unfold stE at this
          split at this
          · assumption
          · cases this
      · cases h
    · cases h
  · cases h
theorem rowsTo_len {s k : Nat} {nx : List (List Int)} (h : ∀ r ∈ nx, r.length = k) : ∀ {i : Nat}, i ≤ nx.length → (rowsTo s k nx i).length = i * (k * 3)
  | 0, _ => by simp [rowsTo]
  | i + 1, hi => by
    have ih := rowsTo_len (s := s) h (i := i) (by omega)
    have e : nx.getD i [] ∈ nx := by
      rw [List.getD_eq_getElem?_getD, List.getElem?_eq_getElem (by omega)]; simp
    unfold rowsTo at ih ⊢
    rw [rf_app, List.length_append, ih, cellsTo_len, h _ e, Nat.succ_mul]
theorem accTo_len (s k : Nat) (acc : List Bool) : ∀ (i : Nat), (accTo s k acc i).length ≤ i
  | 0 => by simp [accTo]
  | i + 1 => by
    have ih := accTo_len s k acc i
    unfold accTo at ih ⊢
    rw [rf_app, List.length_append]
    have := accS_len s k acc i
    omega
theorem cells_step {s k q : Nat} {r : List Int} {c : Nat} {v : Int} (h : r[c]? = some v) (X : List Syn) : X ++ cellsTo s k q r (c + 1) = (((X ++ cellsTo s k q r c) ++ [⟨(q : Int), ((s + k * q + c : Nat) : Int), 1, 1⟩]) ++ [⟨-1 - (c : Int), ((s + k * q + c : Nat) : Int), 1, 2⟩]) ++ [⟨((s + k * q + c : Nat) : Int), v, 1, 2⟩] := by
  unfold cellsTo
  rw [rf_app, getD_at h]
  simp [cellS]
theorem rows_step {s k : Nat} {nx : List (List Int)} {q : Nat} {r : List Int} (h : nx[q]? = some r) (X : List Syn) : X ++ rowsTo s k nx (q + 1) = (X ++ rowsTo s k nx q) ++ cellsTo s k q r r.length := by
  unfold rowsTo
  rw [rf_app, getD_at h, List.append_assoc]
theorem acc_step {s k : Nat} {acc : List Bool} {q : Nat} {b : Bool} (h : acc[q]? = some b) (X : List Syn) : X ++ accTo s k acc (q + 1) = (X ++ accTo s k acc q) ++ (if b then [⟨(q : Int), ((s + s * k : Nat) : Int), 1, 1⟩] else []) := by
  unfold accTo
  rw [rf_app, ← List.append_assoc]
  unfold accS
  rw [getD_at h]
theorem machine_c (na : Option Addr) (nc : Nat) (ls : List NL) (st : Int) (aa : Option Addr) (ac : Nat) (acc : List Bool) (w : World) (hL : RoLL w na ls) (hA : RoL w aa eBool acc) : Calls Try.prog 14 [.agg [.slice na ls.length nc, .int .i64 st, .slice aa acc.length ac].toArray].toArray w (RetR (machineP (ls.map (·.2)) st acc) w) := by
  refine fstart Try.func14 rfl rfl (Sat.nil w) ?_
  refine Cd.seq ?_
  refine Cd.region ?_
  refine Ops.box [.slice na ls.length nc, .int .i64 st, .slice aa acc.length ac] rfl rfl ?_
  intro b1
  refine Ops.alc [.slice none 0 0, .int .i64 0, .slice none 0 0] zc_32 ?_
  intro b2
  refine Ops.q (q_asg rfl) ?_
  refine Ops.to rfl ?_
  refine Cd.seq ?_
  refine Cd.seq ?_
  refine Cd.region ?_
  refine Ops.q (q_ldBN [.slice na ls.length nc, .int .i64 st, .slice aa acc.length ac] isA_36 sz_36 rfl (.there .here) rfl) ?_
  refine Ops.cp en_47 rfl (fun w hs => acheck_c _ _ ls st _ acc.length _ w (hL.later hs.below)) ?_
  refine Ops.q (q_asg rfl) ?_
  refine Ops.to rfl ?_
  refine Cd.seq ?_
  refine Cd.region ?_
  refine Ops.q (q_mv rfl) ?_
  by_cases h3 : autoE (ls.map (fun l : NL => l.2)) st acc.length = 0
  · refine Ops.q (q_cmp rfl rfl (c_nne h3)) ?_
    obtain ⟨hw1, hal, hw3, hrow, hin⟩ := autoE_ok h3
    rw [List.length_map] at hw1 hal
    obtain ⟨l0, hl0⟩ : ∃ x, ls[0]? = some x := ⟨_, List.getElem?_eq_getElem (by unfold wi at hw1; omega)⟩
    have hhd : (ls.map (·.2)).headD [] = l0.2 := by cases ls with | nil => simp at hl0 | cons x xs => simp at hl0; subst hl0; rfl
    rw [hhd] at hw3 hrow
    have hs1 : 1 ≤ ls.length ∧ ls.length ≤ 32 := by unfold wi at hw1; omega
    have hk1 : 1 ≤ l0.2.length ∧ l0.2.length ≤ 16 := by unfold wi at hw3; omega
    have hsk : 1 ≤ ls.length * l0.2.length ∧ ls.length * l0.2.length ≤ 512 := ⟨Nat.mul_pos (by omega) (by omega), Nat.le_trans (Nat.mul_le_mul hs1.2 hk1.2) (by decide)⟩
    obtain ⟨nb, no, rfl⟩ := RoL.pos hL.1 eNL_len hl0
    refine Ops.to rfl ?_
    refine Cd.cond_f rfl ?_
    refine Cd.skipTo rfl ?_
    refine Cd.seq ?_
    refine Cd.draw rfl (by kernel_rfl) (.cons (.there .here) .nil) ?_
    intro F4 St5 hP6 hF7 hR8
    refine Dr.q (i := 0) hP6 rfl (by kernel_rfl) (q_fa fo_36_0 rfl) ?_
    refine Dr.q (i := 1) hP6 rfl (by kernel_rfl) (q_ldB isA_22 rfl .here rfl) ?_
    refine Dr.q (i := 2) hP6 rfl (by kernel_rfl) (q_len esz_22 rfl) ?_
    refine Dr.q (i := 3) hP6 rfl (by kernel_rfl) (q_fa fo_36_0 rfl) ?_
    refine Dr.q (i := 4) hP6 rfl (by kernel_rfl) (q_ldB isA_22 rfl .here rfl) ?_
    refine Dr.q (i := 5) hP6 rfl (by kernel_rfl) (q_ix (k := 0) esz_22 rfl rfl (by omega)) ?_
    refine Dr.q (i := 6) hP6 rfl (by kernel_rfl) (q_ldR isA_26 rfl (hL.1.at0 eNL_len hl0 rfl)) ?_
    refine Dr.q (i := 7) hP6 rfl (by kernel_rfl) (q_len esz_26 rfl) ?_
    refine Dr.q (i := 8) hP6 rfl (by kernel_rfl) (q_asg rfl) ?_
    refine Dr.tail 9 (by kernel_rfl) ?_
    refine Ops.sat ?_ (fun _ hs => hR8 .here hs)
    refine Ops.q (q_asg rfl) ?_
    refine Ops.to rfl ?_
    refine Cd.seq ?_
    refine Cd.region ?_
    refine Ops.q (q_mv rfl) ?_
    refine Ops.q (q_ar (v := ((l0.2.length + 1 : Nat) : Int)) rfl rfl (a_inc (by omega))) ?_
    refine Ops.q (q_bld [.slice none 0 0, .int .i64 ((l0.2.length + 1 : Nat) : Int), .slice none 0 0] pls_32 zc_32 rfl rfl) ?_
    refine Ops.q (q_bld [.slice none 0 0, .int .i64 ((l0.2.length + 1 : Nat) : Int), .slice none 0 0] pls_114 zc_114 rfl rfl) ?_
    refine Ops.alc [.slice none 0 0, .int .i64 0, .slice none 0 0] zc_114 ?_
    intro b9
    refine Ops.stB [.slice none 0 0, .int .i64 ((l0.2.length + 1 : Nat) : Int), .slice none 0 0] [.slice none 0 0, .int .i64 ((l0.2.length + 1 : Nat) : Int), .slice none 0 0] sz_114 rfl rfl rfl (one rfl) .here rfl rfl ?_
    refine Ops.to rfl ?_
    refine Cd.seq ?_
    refine Cd.nilRow 126 4 ?_
    refine Cd.nilRow 116 8 ?_
    change Cd _ _ _ _ _ _ _ _ ([row none 0 116 8 (([] : List Prm).length) (([] : List Prm).flatMap ePrm), row none 0 126 4 (([] : List Syn).length) (([] : List Syn).flatMap eSyn), blk b9 114 [.slice none (([] : List Prm).length) 0, .int .i64 ((l0.2.length + 1 : Nat) : Int), .slice none (([] : List Syn).length) 0], blk b1 36 [.slice (some ⟨nb, no, none⟩) ls.length nc, .int .i64 st, .slice aa acc.length ac], blk b2 32 [.slice none 0 0, .int .i64 0, .slice none 0 0]])
    refine Cd.region ?_
    refine Ops.cp en_48 rfl (fun w hs => gate_c w) ?_
    refine Ops.alc [.int .i64 0, .int .i64 0, .int .i64 0, .int .i64 0, .int .i64 0, .int .i64 0, .int .i64 0, .int .i64 0] zc_116 ?_
    intro b10
    refine Ops.stB [.int .i64 ((gateP 0).lk), .int .i64 ((gateP 0).leak), .int .i64 ((gateP 0).bias), .int .i64 ((gateP 0).th), .int .i64 ((gateP 0).rk), .int .i64 ((gateP 0).rs), .int .i64 ((gateP 0).fl), .int .i64 ((gateP 0).rest)] [.int .i64 ((gateP 0).lk), .int .i64 ((gateP 0).leak), .int .i64 ((gateP 0).bias), .int .i64 ((gateP 0).th), .int .i64 ((gateP 0).rk), .int .i64 ((gateP 0).rs), .int .i64 ((gateP 0).fl), .int .i64 ((gateP 0).rest)] sz_116 rfl rfl rfl (one rfl) .here rfl rfl ?_
    refine Ops.to rfl ?_
    refine Cd.seq ?_
    refine Cd.region ?_
    refine Ops.q (q_ldBN [.int .i64 ((gateP 0).lk), .int .i64 ((gateP 0).leak), .int .i64 ((gateP 0).bias), .int .i64 ((gateP 0).th), .int .i64 ((gateP 0).rk), .int .i64 ((gateP 0).rs), .int .i64 ((gateP 0).fl), .int .i64 ((gateP 0).rest)] isA_116 sz_116 rfl .here rfl) ?_
    refine Ops.cl (α := Nat × Nat) (v := fun x => .func (.func 86) #[] #[.pointer (some ⟨x.1, 0, none⟩), .pointer (some ⟨x.2, 0, none⟩)]) (B := fun x => [blk x.1 116 (ePrm (gateP 0)), blk x.2 161 [.pointer (some ⟨b9, 0, none⟩)]]) en_49 rfl (fun w hs => grow_c b9 (gateP 0) w) ?_
    rintro ⟨pb11, bb12⟩
    refine Ops.q (q_asg rfl) ?_
    refine Ops.to rfl ?_
    refine Cd.seq ?_
    refine Cd.region ?_
    refine Ops.q (q_mv rfl) ?_
    refine Ops.q (q_mkf rfl rfl) ?_
    refine Ops.q (q_mkf rfl rfl) ?_
    refine Ops.q (q_asg rfl) ?_
    refine Ops.q (q_asg rfl) ?_
    refine Ops.q (q_asg rfl) ?_
    refine Ops.to rfl ?_
    refine Cd.seq ?_
    refine Cd.region ?_
    refine Ops.q (q_mv rfl) ?_
    refine Ops.lit [.int .i64 1] el_26 zsb_3 rfl rfl ⟨by decide, by decide⟩ rfl ?_
    intro b13
    refine Ops.q (q_mv rfl) ?_
    refine Ops.cm (α := Option Addr × Nat) (v := fun p => .slice p.1 (List.replicate ls.length (1 : Int)).length p.2) (A' := fun p => row p.1 p.2 3 1 (List.replicate ls.length (1 : Int)).length ((List.replicate ls.length (1 : Int)).flatMap eInt) :: [row (some ⟨b13, 0, none⟩) 1 3 1 1 [.int .i64 1], blk pb11 116 (ePrm (gateP 0)), blk bb12 161 [.pointer (some ⟨b9, 0, none⟩)], blk b10 116 [.int .i64 ((gateP 0).lk), .int .i64 ((gateP 0).leak), .int .i64 ((gateP 0).bias), .int .i64 ((gateP 0).th), .int .i64 ((gateP 0).rk), .int .i64 ((gateP 0).rs), .int .i64 ((gateP 0).fl), .int .i64 ((gateP 0).rest)], row none 0 116 8 (([] : List Prm).length) (([] : List Prm).flatMap ePrm), row none 0 126 4 (([] : List Syn).length) (([] : List Syn).flatMap eSyn), blk b9 114 [.slice none (([] : List Prm).length) 0, .int .i64 ((l0.2.length + 1 : Nat) : Int), .slice none (([] : List Syn).length) 0], blk b1 36 [.slice (some ⟨nb, no, none⟩) ls.length nc, .int .i64 st, .slice aa acc.length ac], blk b2 32 [.slice none 0 0, .int .i64 0, .slice none 0 0]]) en_52 rfl (fun w hs => repeat_l b13 1 ls.length _ w _ (by omega) ((((((((((hs.pull (.there (.there (.there (.there (.there (.there (.there (.there .here))))))))).pull (.there (.there (.there (.there (.there (.there (.there (.there .here))))))))).pull (.there (.there (.there (.there (.there (.there (.there (.there .here))))))))).pull (.there (.there (.there (.there (.there (.there (.there (.there .here))))))))).pull (.there (.there (.there (.there (.there (.there (.there (.there .here))))))))).pull (.there (.there (.there (.there (.there (.there (.there (.there .here))))))))).pull (.there (.there (.there (.there (.there (.there (.there (.there .here))))))))).pull (.there (.there (.there (.there (.there (.there (.there (.there .here))))))))).pull (.there (.there (.there (.there (.there (.there (.there (.there .here))))))))))) ?_
    rintro ⟨a14, c15⟩
    refine Ops.cv (α := Option Addr × Nat) (k := 86) (first := []) (caps := [.pointer (some ⟨pb11, 0, none⟩), .pointer (some ⟨bb12, 0, none⟩)]) (vs := [.slice a14 ((List.replicate ls.length (1 : Int)).length) c15]) (v := fun _ => .tuple #[]) (A' := fun p => [blk b9 114 [.slice p.1 ((([] : List Prm) ++ (List.replicate ls.length (1 : Int)).map (setTh (gateP 0))).length) p.2, .int .i64 ((l0.2.length + 1 : Nat) : Int), .slice none (([] : List Syn).length) 0], row p.1 p.2 116 8 ((([] : List Prm) ++ (List.replicate ls.length (1 : Int)).map (setTh (gateP 0))).length) ((([] : List Prm) ++ (List.replicate ls.length (1 : Int)).map (setTh (gateP 0))).flatMap ePrm), row none 0 126 4 (([] : List Syn).length) (([] : List Syn).flatMap eSyn), blk pb11 116 (ePrm (gateP 0)), blk bb12 161 [.pointer (some ⟨b9, 0, none⟩)], row a14 c15 3 1 ((List.replicate ls.length (1 : Int)).length) ((List.replicate ls.length (1 : Int)).flatMap eInt), row (some ⟨b13, 0, none⟩) 1 3 1 1 [.int .i64 1], blk b10 116 [.int .i64 ((gateP 0).lk), .int .i64 ((gateP 0).leak), .int .i64 ((gateP 0).bias), .int .i64 ((gateP 0).th), .int .i64 ((gateP 0).rk), .int .i64 ((gateP 0).rs), .int .i64 ((gateP 0).fl), .int .i64 ((gateP 0).rest)], blk b1 36 [.slice (some ⟨nb, no, none⟩) ls.length nc, .int .i64 st, .slice aa acc.length ac], blk b2 32 [.slice none 0 0, .int .i64 0, .slice none 0 0]]) en_86 rfl rfl (fun w hs => grown_c b9 _ _ _ _ ([] : List Prm) _ ([] : List Syn) pb11 bb12 _ _ (List.replicate ls.length (1 : Int)) _ _ w _ (by simp only [List.length_append, List.length_map, List.length_replicate, List.length_cons, List.length_nil]; omega) (((((((((((hs.pull (.there (.there (.there (.there (.there (.there (.there (.there (.there .here)))))))))).pull (.there (.there (.there (.there (.there (.there (.there (.there (.there .here)))))))))).pull (.there (.there (.there (.there (.there (.there .here))))))).pull (.there (.there (.there (.there .here))))).pull (.there (.there (.there (.there .here))))).pull (.there (.there (.there (.there (.there (.there .here))))))).pull (.there (.there (.there (.there (.there (.there .here))))))).pull (.there (.there (.there (.there (.there (.there (.there (.there .here))))))))).pull (.there (.there (.there (.there (.there (.there (.there (.there .here))))))))).pull (.there (.there (.there (.there (.there (.there (.there (.there (.there .here)))))))))))) ?_
    rintro ⟨a16, c17⟩
    refine Ops.to rfl ?_
    refine Cd.seq ?_
    refine Cd.region ?_
    refine Ops.q (q_mv rfl) ?_
    refine Ops.lit [.int .i64 2] el_26 zsb_3 rfl rfl ⟨by decide, by decide⟩ rfl ?_
    intro b18
    refine Ops.q (q_mv rfl) ?_
    refine Ops.q (q_mv rfl) ?_
    refine Ops.q (q_ar (v := ((ls.length * l0.2.length : Nat) : Int)) rfl rfl ((by rw [a_mul (by rw [← Int.natCast_mul]; omega), ← Int.natCast_mul]))) ?_
    refine Ops.cm (α := Option Addr × Nat) (v := fun p => .slice p.1 (List.replicate (ls.length * l0.2.length) (2 : Int)).length p.2) (A' := fun p => row p.1 p.2 3 1 (List.replicate (ls.length * l0.2.length) (2 : Int)).length ((List.replicate (ls.length * l0.2.length) (2 : Int)).flatMap eInt) :: [row (some ⟨b18, 0, none⟩) 1 3 1 1 [.int .i64 2], blk b9 114 [.slice a16 ((([] : List Prm) ++ (List.replicate ls.length (1 : Int)).map (setTh (gateP 0))).length) c17, .int .i64 ((l0.2.length + 1 : Nat) : Int), .slice none (([] : List Syn).length) 0], row a16 c17 116 8 ((([] : List Prm) ++ (List.replicate ls.length (1 : Int)).map (setTh (gateP 0))).length) ((([] : List Prm) ++ (List.replicate ls.length (1 : Int)).map (setTh (gateP 0))).flatMap ePrm), row none 0 126 4 (([] : List Syn).length) (([] : List Syn).flatMap eSyn), blk pb11 116 (ePrm (gateP 0)), blk bb12 161 [.pointer (some ⟨b9, 0, none⟩)], row a14 c15 3 1 ((List.replicate ls.length (1 : Int)).length) ((List.replicate ls.length (1 : Int)).flatMap eInt), row (some ⟨b13, 0, none⟩) 1 3 1 1 [.int .i64 1], blk b10 116 [.int .i64 ((gateP 0).lk), .int .i64 ((gateP 0).leak), .int .i64 ((gateP 0).bias), .int .i64 ((gateP 0).th), .int .i64 ((gateP 0).rk), .int .i64 ((gateP 0).rs), .int .i64 ((gateP 0).fl), .int .i64 ((gateP 0).rest)], blk b1 36 [.slice (some ⟨nb, no, none⟩) ls.length nc, .int .i64 st, .slice aa acc.length ac], blk b2 32 [.slice none 0 0, .int .i64 0, .slice none 0 0]]) en_52 rfl (fun w hs => repeat_l b18 2 (ls.length * l0.2.length) _ w _ (by omega) ((((((((((((hs.pull (.there (.there (.there (.there (.there (.there (.there (.there (.there (.there .here))))))))))).pull (.there (.there (.there (.there (.there (.there (.there (.there (.there (.there .here))))))))))).pull (.there (.there (.there (.there (.there (.there (.there (.there (.there (.there .here))))))))))).pull (.there (.there (.there (.there (.there (.there (.there (.there (.there (.there .here))))))))))).pull (.there (.there (.there (.there (.there (.there (.there (.there (.there (.there .here))))))))))).pull (.there (.there (.there (.there (.there (.there (.there (.there (.there (.there .here))))))))))).pull (.there (.there (.there (.there (.there (.there (.there (.there (.there (.there .here))))))))))).pull (.there (.there (.there (.there (.there (.there (.there (.there (.there (.there .here))))))))))).pull (.there (.there (.there (.there (.there (.there (.there (.there (.there (.there .here))))))))))).pull (.there (.there (.there (.there (.there (.there (.there (.there (.there (.there .here))))))))))).pull (.there (.there (.there (.there (.there (.there (.there (.there (.there (.there .here))))))))))))) ?_
    rintro ⟨a19, c20⟩
    refine Ops.cv (α := Option Addr × Nat) (k := 86) (first := []) (caps := [.pointer (some ⟨pb11, 0, none⟩), .pointer (some ⟨bb12, 0, none⟩)]) (vs := [.slice a19 ((List.replicate (ls.length * l0.2.length) (2 : Int)).length) c20]) (v := fun _ => .tuple #[]) (A' := fun p => [blk b9 114 [.slice p.1 (((([] : List Prm) ++ (List.replicate ls.length (1 : Int)).map (setTh (gateP 0))) ++ (List.replicate (ls.length * l0.2.length) (2 : Int)).map (setTh (gateP 0))).length) p.2, .int .i64 ((l0.2.length + 1 : Nat) : Int), .slice none (([] : List Syn).length) 0], row p.1 p.2 116 8 (((([] : List Prm) ++ (List.replicate ls.length (1 : Int)).map (setTh (gateP 0))) ++ (List.replicate (ls.length * l0.2.length) (2 : Int)).map (setTh (gateP 0))).length) (((([] : List Prm) ++ (List.replicate ls.length (1 : Int)).map (setTh (gateP 0))) ++ (List.replicate (ls.length * l0.2.length) (2 : Int)).map (setTh (gateP 0))).flatMap ePrm), row none 0 126 4 (([] : List Syn).length) (([] : List Syn).flatMap eSyn), blk pb11 116 (ePrm (gateP 0)), blk bb12 161 [.pointer (some ⟨b9, 0, none⟩)], row a19 c20 3 1 ((List.replicate (ls.length * l0.2.length) (2 : Int)).length) ((List.replicate (ls.length * l0.2.length) (2 : Int)).flatMap eInt), row (some ⟨b18, 0, none⟩) 1 3 1 1 [.int .i64 2], row a14 c15 3 1 ((List.replicate ls.length (1 : Int)).length) ((List.replicate ls.length (1 : Int)).flatMap eInt), row (some ⟨b13, 0, none⟩) 1 3 1 1 [.int .i64 1], blk b10 116 [.int .i64 ((gateP 0).lk), .int .i64 ((gateP 0).leak), .int .i64 ((gateP 0).bias), .int .i64 ((gateP 0).th), .int .i64 ((gateP 0).rk), .int .i64 ((gateP 0).rs), .int .i64 ((gateP 0).fl), .int .i64 ((gateP 0).rest)], blk b1 36 [.slice (some ⟨nb, no, none⟩) ls.length nc, .int .i64 st, .slice aa acc.length ac], blk b2 32 [.slice none 0 0, .int .i64 0, .slice none 0 0]]) en_86 rfl rfl (fun w hs => grown_c b9 _ _ _ _ (([] : List Prm) ++ (List.replicate ls.length (1 : Int)).map (setTh (gateP 0))) _ ([] : List Syn) pb11 bb12 _ _ (List.replicate (ls.length * l0.2.length) (2 : Int)) _ _ w _ (by simp only [List.length_append, List.length_map, List.length_replicate, List.length_cons, List.length_nil]; omega) (((((((((((((hs.pull (.there (.there (.there (.there (.there (.there (.there (.there (.there (.there (.there .here)))))))))))).pull (.there (.there (.there (.there (.there (.there (.there (.there (.there (.there (.there .here)))))))))))).pull (.there (.there (.there (.there (.there (.there (.there (.there (.there (.there (.there .here)))))))))))).pull (.there (.there (.there (.there (.there (.there (.there (.there (.there (.there (.there .here)))))))))))).pull (.there (.there (.there (.there (.there (.there (.there (.there (.there (.there (.there .here)))))))))))).pull (.there (.there (.there (.there (.there (.there .here))))))).pull (.there (.there (.there (.there (.there (.there .here))))))).pull (.there (.there (.there (.there (.there (.there (.there (.there (.there (.there (.there .here)))))))))))).pull (.there (.there (.there (.there (.there (.there (.there (.there (.there (.there (.there .here)))))))))))).pull (.there (.there (.there (.there (.there (.there (.there (.there (.there (.there (.there .here)))))))))))).pull (.there (.there (.there (.there (.there (.there (.there (.there (.there (.there (.there .here)))))))))))).pull (.there (.there (.there (.there (.there (.there (.there (.there (.there (.there (.there .here)))))))))))))) ?_
    rintro ⟨a21, c22⟩
    refine Ops.to rfl ?_
    refine Cd.seq ?_
    refine Cd.region ?_
    refine Ops.q (q_mv rfl) ?_
    refine Ops.lit [.int .i64 1] el_26 zsb_3 rfl rfl ⟨by decide, by decide⟩ rfl ?_
    intro b23
    refine Ops.cv (α := Option Addr × Nat) (k := 86) (first := []) (caps := [.pointer (some ⟨pb11, 0, none⟩), .pointer (some ⟨bb12, 0, none⟩)]) (vs := [.slice (some ⟨b23, 0, none⟩) ([(1 : Int)].length) 1]) (v := fun _ => .tuple #[]) (A' := fun p => [blk b9 114 [.slice p.1 ((((([] : List Prm) ++ (List.replicate ls.length (1 : Int)).map (setTh (gateP 0))) ++ (List.replicate (ls.length * l0.2.length) (2 : Int)).map (setTh (gateP 0))) ++ [(1 : Int)].map (setTh (gateP 0))).length) p.2, .int .i64 ((l0.2.length + 1 : Nat) : Int), .slice none (([] : List Syn).length) 0], row p.1 p.2 116 8 ((((([] : List Prm) ++ (List.replicate ls.length (1 : Int)).map (setTh (gateP 0))) ++ (List.replicate (ls.length * l0.2.length) (2 : Int)).map (setTh (gateP 0))) ++ [(1 : Int)].map (setTh (gateP 0))).length) ((((([] : List Prm) ++ (List.replicate ls.length (1 : Int)).map (setTh (gateP 0))) ++ (List.replicate (ls.length * l0.2.length) (2 : Int)).map (setTh (gateP 0))) ++ [(1 : Int)].map (setTh (gateP 0))).flatMap ePrm), row none 0 126 4 (([] : List Syn).length) (([] : List Syn).flatMap eSyn), blk pb11 116 (ePrm (gateP 0)), blk bb12 161 [.pointer (some ⟨b9, 0, none⟩)], row (some ⟨b23, 0, none⟩) 1 3 1 ([(1 : Int)].length) ([(1 : Int)].flatMap eInt), row a19 c20 3 1 ((List.replicate (ls.length * l0.2.length) (2 : Int)).length) ((List.replicate (ls.length * l0.2.length) (2 : Int)).flatMap eInt), row (some ⟨b18, 0, none⟩) 1 3 1 1 [.int .i64 2], row a14 c15 3 1 ((List.replicate ls.length (1 : Int)).length) ((List.replicate ls.length (1 : Int)).flatMap eInt), row (some ⟨b13, 0, none⟩) 1 3 1 1 [.int .i64 1], blk b10 116 [.int .i64 ((gateP 0).lk), .int .i64 ((gateP 0).leak), .int .i64 ((gateP 0).bias), .int .i64 ((gateP 0).th), .int .i64 ((gateP 0).rk), .int .i64 ((gateP 0).rs), .int .i64 ((gateP 0).fl), .int .i64 ((gateP 0).rest)], blk b1 36 [.slice (some ⟨nb, no, none⟩) ls.length nc, .int .i64 st, .slice aa acc.length ac], blk b2 32 [.slice none 0 0, .int .i64 0, .slice none 0 0]]) en_86 rfl rfl (fun w hs => grown_c b9 _ _ _ _ ((([] : List Prm) ++ (List.replicate ls.length (1 : Int)).map (setTh (gateP 0))) ++ (List.replicate (ls.length * l0.2.length) (2 : Int)).map (setTh (gateP 0))) _ ([] : List Syn) pb11 bb12 _ _ [(1 : Int)] _ _ w _ (by simp only [List.length_append, List.length_map, List.length_replicate, List.length_cons, List.length_nil]; omega) ((((((((((((((hs.pull (.there (.there (.there (.there (.there (.there (.there (.there (.there (.there (.there (.there .here))))))))))))).pull (.there (.there (.there (.there (.there (.there (.there (.there (.there (.there (.there (.there .here))))))))))))).pull (.there (.there (.there (.there (.there (.there (.there (.there (.there (.there (.there (.there .here))))))))))))).pull (.there (.there (.there (.there (.there (.there (.there (.there (.there (.there (.there (.there .here))))))))))))).pull (.there (.there (.there (.there (.there (.there (.there (.there (.there (.there (.there (.there .here))))))))))))).pull (.there (.there (.there (.there (.there (.there (.there (.there (.there (.there (.there (.there .here))))))))))))).pull (.there (.there (.there (.there (.there (.there (.there (.there (.there (.there (.there (.there .here))))))))))))).pull (.there (.there (.there (.there (.there (.there (.there .here)))))))).pull (.there (.there (.there (.there (.there (.there (.there (.there (.there (.there (.there (.there .here))))))))))))).pull (.there (.there (.there (.there (.there (.there (.there (.there (.there (.there (.there (.there .here))))))))))))).pull (.there (.there (.there (.there (.there (.there (.there (.there (.there (.there (.there (.there .here))))))))))))).pull (.there (.there (.there (.there (.there (.there (.there (.there (.there (.there (.there (.there .here))))))))))))).pull (.there (.there (.there (.there (.there (.there (.there (.there (.there (.there (.there (.there .here))))))))))))))) ?_
    rintro ⟨a24, c25⟩
    refine Ops.to rfl ?_
    refine Cd.seq ?_
    refine Cd.region ?_
    refine Ops.q (q_mv rfl) ?_
    refine Ops.q (q_mv rfl) ?_
    refine Ops.q (q_fa fo_36_1 rfl) ?_
    refine Ops.q (q_ldB isA_3 rfl (.there (.there (.there (.there (.there (.there (.there (.there (.there (.there (.there .here))))))))))) rfl) ?_
    refine Ops.cv (α := Option Addr × Nat) (k := 51) (first := [.pointer (some ⟨b9, 0, none⟩)]) (caps := []) (vs := [.int .i64 (l0.2.length : Int), .int .i64 st, .int .i64 1, .int .i64 1]) (v := fun _ => .tuple #[]) (A' := fun p => [blk b9 114 [.slice a24 ((((([] : List Prm) ++ (List.replicate ls.length (1 : Int)).map (setTh (gateP 0))) ++ (List.replicate (ls.length * l0.2.length) (2 : Int)).map (setTh (gateP 0))) ++ [(1 : Int)].map (setTh (gateP 0))).length) c25, .int .i64 ((l0.2.length + 1 : Nat) : Int), .slice p.1 ((([] : List Syn) ++ [(⟨-1 - (l0.2.length : Int), st, 1, 1⟩ : Syn)]).length) p.2], row a24 c25 116 8 ((((([] : List Prm) ++ (List.replicate ls.length (1 : Int)).map (setTh (gateP 0))) ++ (List.replicate (ls.length * l0.2.length) (2 : Int)).map (setTh (gateP 0))) ++ [(1 : Int)].map (setTh (gateP 0))).length) ((((([] : List Prm) ++ (List.replicate ls.length (1 : Int)).map (setTh (gateP 0))) ++ (List.replicate (ls.length * l0.2.length) (2 : Int)).map (setTh (gateP 0))) ++ [(1 : Int)].map (setTh (gateP 0))).flatMap ePrm), row p.1 p.2 126 4 ((([] : List Syn) ++ [(⟨-1 - (l0.2.length : Int), st, 1, 1⟩ : Syn)]).length) ((([] : List Syn) ++ [(⟨-1 - (l0.2.length : Int), st, 1, 1⟩ : Syn)]).flatMap eSyn), blk pb11 116 (ePrm (gateP 0)), blk bb12 161 [.pointer (some ⟨b9, 0, none⟩)], row (some ⟨b23, 0, none⟩) 1 3 1 ([(1 : Int)].length) ([(1 : Int)].flatMap eInt), row a19 c20 3 1 ((List.replicate (ls.length * l0.2.length) (2 : Int)).length) ((List.replicate (ls.length * l0.2.length) (2 : Int)).flatMap eInt), row (some ⟨b18, 0, none⟩) 1 3 1 1 [.int .i64 2], row a14 c15 3 1 ((List.replicate ls.length (1 : Int)).length) ((List.replicate ls.length (1 : Int)).flatMap eInt), row (some ⟨b13, 0, none⟩) 1 3 1 1 [.int .i64 1], blk b10 116 [.int .i64 ((gateP 0).lk), .int .i64 ((gateP 0).leak), .int .i64 ((gateP 0).bias), .int .i64 ((gateP 0).th), .int .i64 ((gateP 0).rk), .int .i64 ((gateP 0).rs), .int .i64 ((gateP 0).fl), .int .i64 ((gateP 0).rest)], blk b1 36 [.slice (some ⟨nb, no, none⟩) ls.length nc, .int .i64 st, .slice aa acc.length ac], blk b2 32 [.slice none 0 0, .int .i64 0, .slice none 0 0]]) en_51 rfl rfl (fun w hs => feed_c _ _ _ _ _ (((([] : List Prm) ++ (List.replicate ls.length (1 : Int)).map (setTh (gateP 0))) ++ (List.replicate (ls.length * l0.2.length) (2 : Int)).map (setTh (gateP 0))) ++ [(1 : Int)].map (setTh (gateP 0))) _ ([] : List Syn) (l0.2.length : Int) st 1 1 _ w _ (by simp) (by omega) ((((((((((((((hs.pull (.there (.there (.there (.there (.there (.there (.there (.there (.there (.there (.there (.there .here))))))))))))).pull (.there (.there (.there (.there (.there (.there (.there (.there (.there (.there (.there (.there .here))))))))))))).pull (.there (.there (.there (.there (.there (.there (.there (.there (.there (.there (.there (.there .here))))))))))))).pull (.there (.there (.there (.there (.there (.there (.there (.there (.there (.there (.there (.there .here))))))))))))).pull (.there (.there (.there (.there (.there (.there (.there (.there (.there (.there (.there (.there .here))))))))))))).pull (.there (.there (.there (.there (.there (.there (.there (.there (.there (.there (.there (.there .here))))))))))))).pull (.there (.there (.there (.there (.there (.there (.there (.there (.there (.there (.there (.there .here))))))))))))).pull (.there (.there (.there (.there (.there (.there (.there (.there (.there (.there (.there (.there .here))))))))))))).pull (.there (.there (.there (.there (.there (.there (.there (.there (.there (.there (.there (.there .here))))))))))))).pull (.there (.there (.there (.there (.there (.there (.there (.there (.there (.there (.there (.there .here))))))))))))).pull (.there (.there (.there (.there (.there (.there (.there (.there (.there (.there (.there (.there .here))))))))))))).pull (.there (.there (.there (.there (.there (.there (.there (.there (.there (.there (.there (.there .here))))))))))))).pull (.there (.there (.there (.there (.there (.there (.there (.there (.there (.there (.there (.there .here))))))))))))))) ?_
    rintro ⟨a26, c27⟩
    refine Ops.to rfl ?_
    refine Cd.seq ?_
    refine Cd.seq ?_
    refine Cd.region ?_
    refine Ops.q (q_fa fo_36_0 rfl) ?_
    refine Ops.q (q_ldB isA_22 rfl (.there (.there (.there (.there (.there (.there (.there (.there (.there (.there (.there .here))))))))))) rfl) ?_
    refine Ops.q (q_len esz_22 rfl) ?_
    refine Ops.q (q_mv rfl) ?_
    refine Ops.to rfl ?_
    refine Cd.block ?_
    refine Cd.lp (σ := Nat × Option Addr × Nat) (fun s => s.1 ≤ ls.length) (fun s => [(1, .pointer (some ⟨b1, 0, none⟩)), (2, .pointer (some ⟨b2, 0, none⟩)), (5, .int .i64 (ls.length : Int)), (6, .int .i64 (l0.2.length : Int)), (7, .pointer (some ⟨b9, 0, none⟩)), (11, .func (.func 50) #[.pointer (some ⟨b9, 0, none⟩)] #[]), (12, .func (.func 51) #[.pointer (some ⟨b9, 0, none⟩)] #[]), (65, .slice (some ⟨nb, no, none⟩) ls.length nc), (66, .int .i64 (ls.length : Int)), (67, .int .i64 (s.1 : Int))]) (fun s => [blk b9 114 [.slice a24 ((((([] : List Prm) ++ (List.replicate ls.length (1 : Int)).map (setTh (gateP 0))) ++ (List.replicate (ls.length * l0.2.length) (2 : Int)).map (setTh (gateP 0))) ++ [(1 : Int)].map (setTh (gateP 0))).length) c25, .int .i64 ((l0.2.length + 1 : Nat) : Int), .slice s.2.1 (((([] : List Syn) ++ [(⟨-1 - (l0.2.length : Int), st, 1, 1⟩ : Syn)]) ++ rowsTo ls.length l0.2.length (ls.map (·.2)) s.1).length) s.2.2], row a24 c25 116 8 ((((([] : List Prm) ++ (List.replicate ls.length (1 : Int)).map (setTh (gateP 0))) ++ (List.replicate (ls.length * l0.2.length) (2 : Int)).map (setTh (gateP 0))) ++ [(1 : Int)].map (setTh (gateP 0))).length) ((((([] : List Prm) ++ (List.replicate ls.length (1 : Int)).map (setTh (gateP 0))) ++ (List.replicate (ls.length * l0.2.length) (2 : Int)).map (setTh (gateP 0))) ++ [(1 : Int)].map (setTh (gateP 0))).flatMap ePrm), row s.2.1 s.2.2 126 4 (((([] : List Syn) ++ [(⟨-1 - (l0.2.length : Int), st, 1, 1⟩ : Syn)]) ++ rowsTo ls.length l0.2.length (ls.map (·.2)) s.1).length) (((([] : List Syn) ++ [(⟨-1 - (l0.2.length : Int), st, 1, 1⟩ : Syn)]) ++ rowsTo ls.length l0.2.length (ls.map (·.2)) s.1).flatMap eSyn), blk b1 36 [.slice (some ⟨nb, no, none⟩) ls.length nc, .int .i64 st, .slice aa acc.length ac], blk b2 32 [.slice none 0 0, .int .i64 0, .slice none 0 0]]) (fun s => ls.length - s.1) (0, a26, c27) (Nat.zero_le _) ⟨rfl, rfl, rfl, rfl, rfl, rfl, rfl, rfl, rfl, rfl, trivial⟩ (fun _ hs => by have h1 := (((((((((((((hs.pull (.there (.there (.there (.there (.there (.there (.there (.there (.there (.there (.there (.there .here))))))))))))).pull (.there (.there (.there (.there (.there (.there (.there (.there (.there (.there (.there (.there .here))))))))))))).pull (.there (.there (.there (.there .here))))).pull (.there (.there (.there (.there .here))))).pull (.there (.there (.there (.there .here))))).pull (.there (.there (.there (.there (.there .here)))))).drop.pull (.there (.there (.there (.there (.there .here)))))).drop.pull (.there (.there (.there (.there (.there .here)))))).drop.pull (.there (.there (.there (.there (.there .here)))))).drop.pull (.there (.there (.there (.there (.there .here)))))).drop.pull (.there (.there (.there (.there (.there .here)))))).drop.pull (.there (.there (.there (.there (.there .here)))))).drop.pull (.there (.there (.there (.there (.there .here)))))).drop; (try dsimp only); rw [show ((([] : List Syn) ++ [(⟨-1 - (l0.2.length : Int), st, 1, 1⟩ : Syn)]) ++ rowsTo ls.length l0.2.length (ls.map (·.2)) 0) = (([] : List Syn) ++ [(⟨-1 - (l0.2.length : Int), st, 1, 1⟩ : Syn)]) from List.append_nil _]; exact h1) ?_
    rintro ⟨q, qa, qc⟩ hI
    dsimp only at hI
    change Cd _ _ _ _ _ _ _ [(1, .pointer (some ⟨b1, 0, none⟩)), (2, .pointer (some ⟨b2, 0, none⟩)), (5, .int .i64 (ls.length : Int)), (6, .int .i64 (l0.2.length : Int)), (7, .pointer (some ⟨b9, 0, none⟩)), (11, .func (.func 50) #[.pointer (some ⟨b9, 0, none⟩)] #[]), (12, .func (.func 51) #[.pointer (some ⟨b9, 0, none⟩)] #[]), (65, .slice (some ⟨nb, no, none⟩) ls.length nc), (66, .int .i64 (ls.length : Int)), (67, .int .i64 (q : Int))] ([blk b9 114 [.slice a24 ((((([] : List Prm) ++ (List.replicate ls.length (1 : Int)).map (setTh (gateP 0))) ++ (List.replicate (ls.length * l0.2.length) (2 : Int)).map (setTh (gateP 0))) ++ [(1 : Int)].map (setTh (gateP 0))).length) c25, .int .i64 ((l0.2.length + 1 : Nat) : Int), .slice qa (((([] : List Syn) ++ [(⟨-1 - (l0.2.length : Int), st, 1, 1⟩ : Syn)]) ++ rowsTo ls.length l0.2.length (ls.map (·.2)) q).length) qc], row a24 c25 116 8 ((((([] : List Prm) ++ (List.replicate ls.length (1 : Int)).map (setTh (gateP 0))) ++ (List.replicate (ls.length * l0.2.length) (2 : Int)).map (setTh (gateP 0))) ++ [(1 : Int)].map (setTh (gateP 0))).length) ((((([] : List Prm) ++ (List.replicate ls.length (1 : Int)).map (setTh (gateP 0))) ++ (List.replicate (ls.length * l0.2.length) (2 : Int)).map (setTh (gateP 0))) ++ [(1 : Int)].map (setTh (gateP 0))).flatMap ePrm), row qa qc 126 4 (((([] : List Syn) ++ [(⟨-1 - (l0.2.length : Int), st, 1, 1⟩ : Syn)]) ++ rowsTo ls.length l0.2.length (ls.map (·.2)) q).length) (((([] : List Syn) ++ [(⟨-1 - (l0.2.length : Int), st, 1, 1⟩ : Syn)]) ++ rowsTo ls.length l0.2.length (ls.map (·.2)) q).flatMap eSyn), blk b1 36 [.slice (some ⟨nb, no, none⟩) ls.length nc, .int .i64 st, .slice aa acc.length ac], blk b2 32 [.slice none 0 0, .int .i64 0, .slice none 0 0]])
    refine Cd.seq ?_
    refine Cd.region ?_
    by_cases hq0 : (q : Int) < (ls.length : Int)
    · refine Ops.q (q_cmp rfl rfl (c_lt hq0)) ?_
      obtain ⟨⟨⟨xa, xc⟩, xr⟩, hx⟩ : ∃ x, ls[q]? = some x := ⟨_, List.getElem?_eq_getElem (by omega)⟩
      have hxq : (ls.map (·.2))[q]? = some xr := by rw [List.getElem?_map, hx]; rfl
      have hxm : xr ∈ ls.map (·.2) := List.mem_iff_getElem?.2 ⟨q, hxq⟩
      have hxl := hrow xr hxm
      have hxe : RoL w xa eInt xr := hL.2 _ (List.mem_iff_getElem?.2 ⟨q, hx⟩)
      obtain ⟨xv, hxv⟩ : ∃ v, xr[0]? = some v := ⟨_, List.getElem?_eq_getElem (by omega)⟩
      obtain ⟨xb, xo, rfl⟩ := RoL.pos hxe eInt_len hxv
      refine Ops.to rfl ?_
      refine Cd.seq ?_
      refine Cd.cond_t rfl ?_
      refine Cd.skipTo rfl ?_
      refine Cd.seq ?_
      refine Cd.block ?_
      refine Cd.seq ?_
      refine Cd.region ?_
      refine Ops.q (q_mv rfl) ?_
      refine Ops.q (q_ix (k := q) esz_22 rfl rfl (by omega)) ?_
      refine Ops.q (q_ldR isA_26 rfl (hL.1.at0 eNL_len hx rfl)) ?_
      change Ops _ _ _ _ _ _ _ _ ((71, .slice (some ⟨xb, xo, none⟩) xr.length xc) :: _) _
      refine Ops.q (q_asg rfl) ?_
      refine Ops.q (q_asg rfl) ?_
      refine Ops.to rfl ?_
      refine Cd.seq ?_
      refine Cd.region ?_
      refine Ops.q (q_mv rfl) ?_
      refine Ops.q (q_len esz_26 rfl) ?_
      refine Ops.q (q_mv rfl) ?_
      refine Ops.to rfl ?_
      refine Cd.block ?_
      refine Cd.lp (σ := Nat × Option Addr × Nat) (fun s => s.1 ≤ xr.length) (fun s => [(1, .pointer (some ⟨b1, 0, none⟩)), (2, .pointer (some ⟨b2, 0, none⟩)), (5, .int .i64 (ls.length : Int)), (6, .int .i64 (l0.2.length : Int)), (7, .pointer (some ⟨b9, 0, none⟩)), (11, .func (.func 50) #[.pointer (some ⟨b9, 0, none⟩)] #[]), (12, .func (.func 51) #[.pointer (some ⟨b9, 0, none⟩)] #[]), (65, .slice (some ⟨nb, no, none⟩) ls.length nc), (66, .int .i64 (ls.length : Int)), (67, .int .i64 (q : Int)), (13, .int .i64 (q : Int)), (72, .slice (some ⟨xb, xo, none⟩) xr.length xc), (73, .int .i64 (xr.length : Int)), (74, .int .i64 (s.1 : Int))]) (fun s => [blk b9 114 [.slice a24 ((((([] : List Prm) ++ (List.replicate ls.length (1 : Int)).map (setTh (gateP 0))) ++ (List.replicate (ls.length * l0.2.length) (2 : Int)).map (setTh (gateP 0))) ++ [(1 : Int)].map (setTh (gateP 0))).length) c25, .int .i64 ((l0.2.length + 1 : Nat) : Int), .slice s.2.1 ((((([] : List Syn) ++ [(⟨-1 - (l0.2.length : Int), st, 1, 1⟩ : Syn)]) ++ rowsTo ls.length l0.2.length (ls.map (·.2)) q) ++ cellsTo ls.length l0.2.length q xr s.1).length) s.2.2], row a24 c25 116 8 ((((([] : List Prm) ++ (List.replicate ls.length (1 : Int)).map (setTh (gateP 0))) ++ (List.replicate (ls.length * l0.2.length) (2 : Int)).map (setTh (gateP 0))) ++ [(1 : Int)].map (setTh (gateP 0))).length) ((((([] : List Prm) ++ (List.replicate ls.length (1 : Int)).map (setTh (gateP 0))) ++ (List.replicate (ls.length * l0.2.length) (2 : Int)).map (setTh (gateP 0))) ++ [(1 : Int)].map (setTh (gateP 0))).flatMap ePrm), row s.2.1 s.2.2 126 4 ((((([] : List Syn) ++ [(⟨-1 - (l0.2.length : Int), st, 1, 1⟩ : Syn)]) ++ rowsTo ls.length l0.2.length (ls.map (·.2)) q) ++ cellsTo ls.length l0.2.length q xr s.1).length) ((((([] : List Syn) ++ [(⟨-1 - (l0.2.length : Int), st, 1, 1⟩ : Syn)]) ++ rowsTo ls.length l0.2.length (ls.map (·.2)) q) ++ cellsTo ls.length l0.2.length q xr s.1).flatMap eSyn), blk b1 36 [.slice (some ⟨nb, no, none⟩) ls.length nc, .int .i64 st, .slice aa acc.length ac], blk b2 32 [.slice none 0 0, .int .i64 0, .slice none 0 0]]) (fun s => xr.length - s.1) (0, qa, qc) (Nat.zero_le _) ⟨rfl, rfl, rfl, rfl, rfl, rfl, rfl, rfl, rfl, rfl, rfl, rfl, rfl, rfl, trivial⟩ (fun _ hs => by have h1 := (((((hs.pull (.there (.there (.there (.there .here))))).pull (.there (.there (.there (.there .here))))).pull (.there (.there (.there (.there .here))))).pull (.there (.there (.there (.there .here))))).pull (.there (.there (.there (.there .here))))); (try dsimp only); rw [show (((([] : List Syn) ++ [(⟨-1 - (l0.2.length : Int), st, 1, 1⟩ : Syn)]) ++ rowsTo ls.length l0.2.length (ls.map (·.2)) q) ++ cellsTo ls.length l0.2.length q xr 0) = ((([] : List Syn) ++ [(⟨-1 - (l0.2.length : Int), st, 1, 1⟩ : Syn)]) ++ rowsTo ls.length l0.2.length (ls.map (·.2)) q) from List.append_nil _]; exact h1) ?_
      rintro ⟨c, ra, rc⟩ hI
      dsimp only at hI
      change Cd _ _ _ _ _ _ _ [(1, .pointer (some ⟨b1, 0, none⟩)), (2, .pointer (some ⟨b2, 0, none⟩)), (5, .int .i64 (ls.length : Int)), (6, .int .i64 (l0.2.length : Int)), (7, .pointer (some ⟨b9, 0, none⟩)), (11, .func (.func 50) #[.pointer (some ⟨b9, 0, none⟩)] #[]), (12, .func (.func 51) #[.pointer (some ⟨b9, 0, none⟩)] #[]), (65, .slice (some ⟨nb, no, none⟩) ls.length nc), (66, .int .i64 (ls.length : Int)), (67, .int .i64 (q : Int)), (13, .int .i64 (q : Int)), (72, .slice (some ⟨xb, xo, none⟩) xr.length xc), (73, .int .i64 (xr.length : Int)), (74, .int .i64 (c : Int))] ([blk b9 114 [.slice a24 ((((([] : List Prm) ++ (List.replicate ls.length (1 : Int)).map (setTh (gateP 0))) ++ (List.replicate (ls.length * l0.2.length) (2 : Int)).map (setTh (gateP 0))) ++ [(1 : Int)].map (setTh (gateP 0))).length) c25, .int .i64 ((l0.2.length + 1 : Nat) : Int), .slice ra ((((([] : List Syn) ++ [(⟨-1 - (l0.2.length : Int), st, 1, 1⟩ : Syn)]) ++ rowsTo ls.length l0.2.length (ls.map (·.2)) q) ++ cellsTo ls.length l0.2.length q xr c).length) rc], row a24 c25 116 8 ((((([] : List Prm) ++ (List.replicate ls.length (1 : Int)).map (setTh (gateP 0))) ++ (List.replicate (ls.length * l0.2.length) (2 : Int)).map (setTh (gateP 0))) ++ [(1 : Int)].map (setTh (gateP 0))).length) ((((([] : List Prm) ++ (List.replicate ls.length (1 : Int)).map (setTh (gateP 0))) ++ (List.replicate (ls.length * l0.2.length) (2 : Int)).map (setTh (gateP 0))) ++ [(1 : Int)].map (setTh (gateP 0))).flatMap ePrm), row ra rc 126 4 ((((([] : List Syn) ++ [(⟨-1 - (l0.2.length : Int), st, 1, 1⟩ : Syn)]) ++ rowsTo ls.length l0.2.length (ls.map (·.2)) q) ++ cellsTo ls.length l0.2.length q xr c).length) ((((([] : List Syn) ++ [(⟨-1 - (l0.2.length : Int), st, 1, 1⟩ : Syn)]) ++ rowsTo ls.length l0.2.length (ls.map (·.2)) q) ++ cellsTo ls.length l0.2.length q xr c).flatMap eSyn), blk b1 36 [.slice (some ⟨nb, no, none⟩) ls.length nc, .int .i64 st, .slice aa acc.length ac], blk b2 32 [.slice none 0 0, .int .i64 0, .slice none 0 0]])
      refine Cd.seq ?_
      refine Cd.region ?_
      by_cases hc0 : (c : Int) < (xr.length : Int)
      · refine Ops.q (q_cmp rfl rfl (c_lt hc0)) ?_
        obtain ⟨x28, hx29⟩ : ∃ x, xr[c]? = some x := ⟨_, List.getElem?_eq_getElem (by omega)⟩
        have hkq : l0.2.length * q ≤ 16 * 32 := Nat.mul_le_mul hk1.2 (by omega)
        have hrl := rowsTo_len (s := ls.length) hrow (i := q) (by rw [List.length_map]; omega)
        have hq3 : q * (l0.2.length * 3) ≤ 32 * 48 := Nat.mul_le_mul (by omega) (by omega)
        have hcl := cellsTo_len ls.length l0.2.length q xr c
        refine Ops.to rfl ?_
        refine Cd.seq ?_
        refine Cd.cond_t rfl ?_
        refine Cd.skipTo rfl ?_
        refine Cd.seq ?_
        refine Cd.block ?_
        refine Cd.seq ?_
        refine Cd.region ?_
        refine Ops.q (q_mv rfl) ?_
        refine Ops.q (q_ix (k := c) esz_26 rfl rfl (by omega)) ?_
        refine Ops.q (q_ldR isA_3 rfl (hxe.at0 eInt_len hx29 rfl)) ?_
        refine Ops.q (q_asg rfl) ?_
        refine Ops.q (q_asg rfl) ?_
        refine Ops.to rfl ?_
        refine Cd.seq ?_
        refine Cd.region ?_
        refine Ops.q (q_mv rfl) ?_
        refine Ops.q (q_mv rfl) ?_
        refine Ops.q (q_mv rfl) ?_
        refine Ops.q (q_ar (v := ((l0.2.length * q : Nat) : Int)) rfl rfl ((by rw [a_mul (by rw [← Int.natCast_mul]; omega), ← Int.natCast_mul]))) ?_
        refine Ops.q (q_ar (v := ((ls.length + l0.2.length * q : Nat) : Int)) rfl rfl ((by rw [a_add (by omega)]; rfl))) ?_
        refine Ops.q (q_mv rfl) ?_
        refine Ops.q (q_ar (v := ((ls.length + l0.2.length * q + c : Nat) : Int)) rfl rfl ((by rw [a_add (by omega)]; rfl))) ?_
        refine Ops.q (q_asg rfl) ?_
        refine Ops.to rfl ?_
        refine Cd.seq ?_
        refine Cd.region ?_
        refine Ops.q (q_mv rfl) ?_
        refine Ops.q (q_mv rfl) ?_
        refine Ops.q (q_mv rfl) ?_
        refine Ops.cv (α := Option Addr × Nat) (k := 50) (first := [.pointer (some ⟨b9, 0, none⟩)]) (caps := []) (vs := [.int .i64 (q : Int), .int .i64 ((ls.length + l0.2.length * q + c : Nat) : Int), .int .i64 1, .int .i64 1]) (v := fun _ => .tuple #[]) (A' := fun p => [blk b9 114 [.slice a24 ((((([] : List Prm) ++ (List.replicate ls.length (1 : Int)).map (setTh (gateP 0))) ++ (List.replicate (ls.length * l0.2.length) (2 : Int)).map (setTh (gateP 0))) ++ [(1 : Int)].map (setTh (gateP 0))).length) c25, .int .i64 ((l0.2.length + 1 : Nat) : Int), .slice p.1 (((((([] : List Syn) ++ [(⟨-1 - (l0.2.length : Int), st, 1, 1⟩ : Syn)]) ++ rowsTo ls.length l0.2.length (ls.map (·.2)) q) ++ cellsTo ls.length l0.2.length q xr c) ++ [(⟨(q : Int), ((ls.length + l0.2.length * q + c : Nat) : Int), 1, 1⟩ : Syn)]).length) p.2], row a24 c25 116 8 ((((([] : List Prm) ++ (List.replicate ls.length (1 : Int)).map (setTh (gateP 0))) ++ (List.replicate (ls.length * l0.2.length) (2 : Int)).map (setTh (gateP 0))) ++ [(1 : Int)].map (setTh (gateP 0))).length) ((((([] : List Prm) ++ (List.replicate ls.length (1 : Int)).map (setTh (gateP 0))) ++ (List.replicate (ls.length * l0.2.length) (2 : Int)).map (setTh (gateP 0))) ++ [(1 : Int)].map (setTh (gateP 0))).flatMap ePrm), row p.1 p.2 126 4 (((((([] : List Syn) ++ [(⟨-1 - (l0.2.length : Int), st, 1, 1⟩ : Syn)]) ++ rowsTo ls.length l0.2.length (ls.map (·.2)) q) ++ cellsTo ls.length l0.2.length q xr c) ++ [(⟨(q : Int), ((ls.length + l0.2.length * q + c : Nat) : Int), 1, 1⟩ : Syn)]).length) (((((([] : List Syn) ++ [(⟨-1 - (l0.2.length : Int), st, 1, 1⟩ : Syn)]) ++ rowsTo ls.length l0.2.length (ls.map (·.2)) q) ++ cellsTo ls.length l0.2.length q xr c) ++ [(⟨(q : Int), ((ls.length + l0.2.length * q + c : Nat) : Int), 1, 1⟩ : Syn)]).flatMap eSyn), blk b1 36 [.slice (some ⟨nb, no, none⟩) ls.length nc, .int .i64 st, .slice aa acc.length ac], blk b2 32 [.slice none 0 0, .int .i64 0, .slice none 0 0]]) en_50 rfl rfl (fun w hs => join_c _ _ _ _ _ (((([] : List Prm) ++ (List.replicate ls.length (1 : Int)).map (setTh (gateP 0))) ++ (List.replicate (ls.length * l0.2.length) (2 : Int)).map (setTh (gateP 0))) ++ [(1 : Int)].map (setTh (gateP 0))) _ (((([] : List Syn) ++ [(⟨-1 - (l0.2.length : Int), st, 1, 1⟩ : Syn)]) ++ rowsTo ls.length l0.2.length (ls.map (·.2)) q) ++ cellsTo ls.length l0.2.length q xr c) (q : Int) ((ls.length + l0.2.length * q + c : Nat) : Int) 1 1 _ w _ (by simp only [List.length_append, List.length_cons, List.length_nil, hrl, hcl]; omega) ((((((hs.pull (.there (.there (.there (.there .here))))).pull (.there (.there (.there (.there .here))))).pull (.there (.there (.there (.there .here))))).pull (.there (.there (.there (.there .here))))).pull (.there (.there (.there (.there .here))))))) ?_
        rintro ⟨a30, c31⟩
        refine Ops.to rfl ?_
        refine Cd.seq ?_
        refine Cd.region ?_
        refine Ops.q (q_mv rfl) ?_
        refine Ops.q (q_mv rfl) ?_
        refine Ops.q (q_mv rfl) ?_
        refine Ops.cv (α := Option Addr × Nat) (k := 51) (first := [.pointer (some ⟨b9, 0, none⟩)]) (caps := []) (vs := [.int .i64 (c : Int), .int .i64 ((ls.length + l0.2.length * q + c : Nat) : Int), .int .i64 1, .int .i64 2]) (v := fun _ => .tuple #[]) (A' := fun p => [blk b9 114 [.slice a24 ((((([] : List Prm) ++ (List.replicate ls.length (1 : Int)).map (setTh (gateP 0))) ++ (List.replicate (ls.length * l0.2.length) (2 : Int)).map (setTh (gateP 0))) ++ [(1 : Int)].map (setTh (gateP 0))).length) c25, .int .i64 ((l0.2.length + 1 : Nat) : Int), .slice p.1 ((((((([] : List Syn) ++ [(⟨-1 - (l0.2.length : Int), st, 1, 1⟩ : Syn)]) ++ rowsTo ls.length l0.2.length (ls.map (·.2)) q) ++ cellsTo ls.length l0.2.length q xr c) ++ [(⟨(q : Int), ((ls.length + l0.2.length * q + c : Nat) : Int), 1, 1⟩ : Syn)]) ++ [(⟨-1 - (c : Int), ((ls.length + l0.2.length * q + c : Nat) : Int), 1, 2⟩ : Syn)]).length) p.2], row a24 c25 116 8 ((((([] : List Prm) ++ (List.replicate ls.length (1 : Int)).map (setTh (gateP 0))) ++ (List.replicate (ls.length * l0.2.length) (2 : Int)).map (setTh (gateP 0))) ++ [(1 : Int)].map (setTh (gateP 0))).length) ((((([] : List Prm) ++ (List.replicate ls.length (1 : Int)).map (setTh (gateP 0))) ++ (List.replicate (ls.length * l0.2.length) (2 : Int)).map (setTh (gateP 0))) ++ [(1 : Int)].map (setTh (gateP 0))).flatMap ePrm), row p.1 p.2 126 4 ((((((([] : List Syn) ++ [(⟨-1 - (l0.2.length : Int), st, 1, 1⟩ : Syn)]) ++ rowsTo ls.length l0.2.length (ls.map (·.2)) q) ++ cellsTo ls.length l0.2.length q xr c) ++ [(⟨(q : Int), ((ls.length + l0.2.length * q + c : Nat) : Int), 1, 1⟩ : Syn)]) ++ [(⟨-1 - (c : Int), ((ls.length + l0.2.length * q + c : Nat) : Int), 1, 2⟩ : Syn)]).length) ((((((([] : List Syn) ++ [(⟨-1 - (l0.2.length : Int), st, 1, 1⟩ : Syn)]) ++ rowsTo ls.length l0.2.length (ls.map (·.2)) q) ++ cellsTo ls.length l0.2.length q xr c) ++ [(⟨(q : Int), ((ls.length + l0.2.length * q + c : Nat) : Int), 1, 1⟩ : Syn)]) ++ [(⟨-1 - (c : Int), ((ls.length + l0.2.length * q + c : Nat) : Int), 1, 2⟩ : Syn)]).flatMap eSyn), blk b1 36 [.slice (some ⟨nb, no, none⟩) ls.length nc, .int .i64 st, .slice aa acc.length ac], blk b2 32 [.slice none 0 0, .int .i64 0, .slice none 0 0]]) en_51 rfl rfl (fun w hs => feed_c _ _ _ _ _ (((([] : List Prm) ++ (List.replicate ls.length (1 : Int)).map (setTh (gateP 0))) ++ (List.replicate (ls.length * l0.2.length) (2 : Int)).map (setTh (gateP 0))) ++ [(1 : Int)].map (setTh (gateP 0))) _ ((((([] : List Syn) ++ [(⟨-1 - (l0.2.length : Int), st, 1, 1⟩ : Syn)]) ++ rowsTo ls.length l0.2.length (ls.map (·.2)) q) ++ cellsTo ls.length l0.2.length q xr c) ++ [(⟨(q : Int), ((ls.length + l0.2.length * q + c : Nat) : Int), 1, 1⟩ : Syn)]) (c : Int) ((ls.length + l0.2.length * q + c : Nat) : Int) 1 2 _ w _ (by simp only [List.length_append, List.length_cons, List.length_nil, hrl, hcl]; omega) (by omega) ((((((hs.pull (.there (.there (.there (.there .here))))).pull (.there (.there (.there (.there .here))))).pull (.there (.there (.there (.there .here))))).pull (.there (.there (.there (.there .here))))).pull (.there (.there (.there (.there .here))))))) ?_
        rintro ⟨a32, c33⟩
        refine Ops.to rfl ?_
        refine Cd.region ?_
        refine Ops.q (q_mv rfl) ?_
        refine Ops.q (q_mv rfl) ?_
        refine Ops.q (q_mv rfl) ?_
        refine Ops.cv (α := Option Addr × Nat) (k := 50) (first := [.pointer (some ⟨b9, 0, none⟩)]) (caps := []) (vs := [.int .i64 ((ls.length + l0.2.length * q + c : Nat) : Int), .int .i64 x28, .int .i64 1, .int .i64 2]) (v := fun _ => .tuple #[]) (A' := fun p => [blk b9 114 [.slice a24 ((((([] : List Prm) ++ (List.replicate ls.length (1 : Int)).map (setTh (gateP 0))) ++ (List.replicate (ls.length * l0.2.length) (2 : Int)).map (setTh (gateP 0))) ++ [(1 : Int)].map (setTh (gateP 0))).length) c25, .int .i64 ((l0.2.length + 1 : Nat) : Int), .slice p.1 (((((((([] : List Syn) ++ [(⟨-1 - (l0.2.length : Int), st, 1, 1⟩ : Syn)]) ++ rowsTo ls.length l0.2.length (ls.map (·.2)) q) ++ cellsTo ls.length l0.2.length q xr c) ++ [(⟨(q : Int), ((ls.length + l0.2.length * q + c : Nat) : Int), 1, 1⟩ : Syn)]) ++ [(⟨-1 - (c : Int), ((ls.length + l0.2.length * q + c : Nat) : Int), 1, 2⟩ : Syn)]) ++ [(⟨((ls.length + l0.2.length * q + c : Nat) : Int), x28, 1, 2⟩ : Syn)]).length) p.2], row a24 c25 116 8 ((((([] : List Prm) ++ (List.replicate ls.length (1 : Int)).map (setTh (gateP 0))) ++ (List.replicate (ls.length * l0.2.length) (2 : Int)).map (setTh (gateP 0))) ++ [(1 : Int)].map (setTh (gateP 0))).length) ((((([] : List Prm) ++ (List.replicate ls.length (1 : Int)).map (setTh (gateP 0))) ++ (List.replicate (ls.length * l0.2.length) (2 : Int)).map (setTh (gateP 0))) ++ [(1 : Int)].map (setTh (gateP 0))).flatMap ePrm), row p.1 p.2 126 4 (((((((([] : List Syn) ++ [(⟨-1 - (l0.2.length : Int), st, 1, 1⟩ : Syn)]) ++ rowsTo ls.length l0.2.length (ls.map (·.2)) q) ++ cellsTo ls.length l0.2.length q xr c) ++ [(⟨(q : Int), ((ls.length + l0.2.length * q + c : Nat) : Int), 1, 1⟩ : Syn)]) ++ [(⟨-1 - (c : Int), ((ls.length + l0.2.length * q + c : Nat) : Int), 1, 2⟩ : Syn)]) ++ [(⟨((ls.length + l0.2.length * q + c : Nat) : Int), x28, 1, 2⟩ : Syn)]).length) (((((((([] : List Syn) ++ [(⟨-1 - (l0.2.length : Int), st, 1, 1⟩ : Syn)]) ++ rowsTo ls.length l0.2.length (ls.map (·.2)) q) ++ cellsTo ls.length l0.2.length q xr c) ++ [(⟨(q : Int), ((ls.length + l0.2.length * q + c : Nat) : Int), 1, 1⟩ : Syn)]) ++ [(⟨-1 - (c : Int), ((ls.length + l0.2.length * q + c : Nat) : Int), 1, 2⟩ : Syn)]) ++ [(⟨((ls.length + l0.2.length * q + c : Nat) : Int), x28, 1, 2⟩ : Syn)]).flatMap eSyn), blk b1 36 [.slice (some ⟨nb, no, none⟩) ls.length nc, .int .i64 st, .slice aa acc.length ac], blk b2 32 [.slice none 0 0, .int .i64 0, .slice none 0 0]]) en_50 rfl rfl (fun w hs => join_c _ _ _ _ _ (((([] : List Prm) ++ (List.replicate ls.length (1 : Int)).map (setTh (gateP 0))) ++ (List.replicate (ls.length * l0.2.length) (2 : Int)).map (setTh (gateP 0))) ++ [(1 : Int)].map (setTh (gateP 0))) _ (((((([] : List Syn) ++ [(⟨-1 - (l0.2.length : Int), st, 1, 1⟩ : Syn)]) ++ rowsTo ls.length l0.2.length (ls.map (·.2)) q) ++ cellsTo ls.length l0.2.length q xr c) ++ [(⟨(q : Int), ((ls.length + l0.2.length * q + c : Nat) : Int), 1, 1⟩ : Syn)]) ++ [(⟨-1 - (c : Int), ((ls.length + l0.2.length * q + c : Nat) : Int), 1, 2⟩ : Syn)]) ((ls.length + l0.2.length * q + c : Nat) : Int) x28 1 2 _ w _ (by simp only [List.length_append, List.length_cons, List.length_nil, hrl, hcl]; omega) ((((((hs.pull (.there (.there (.there (.there .here))))).pull (.there (.there (.there (.there .here))))).pull (.there (.there (.there (.there .here))))).pull (.there (.there (.there (.there .here))))).pull (.there (.there (.there (.there .here))))))) ?_
        rintro ⟨a34, c35⟩
        refine Ops.to rfl ?_
        refine Cd.region ?_
        refine Ops.q (q_ar rfl rfl (a_inc (by omega))) ?_
        refine Ops.q (q_mv rfl) ?_
        refine Ops.rnd ((c + 1, a34, c35)) rfl (by dsimp only; exact (by omega)) (by dsimp only; omega) ⟨rfl, rfl, rfl, rfl, rfl, rfl, rfl, rfl, rfl, rfl, rfl, rfl, rfl, rfl, trivial⟩ (fun _ hs => by have h1 := (((((hs.pull (.there (.there (.there (.there .here))))).pull (.there (.there (.there (.there .here))))).pull (.there (.there (.there (.there .here))))).pull (.there (.there (.there (.there .here))))).pull (.there (.there (.there (.there .here))))); dsimp only; rw [cells_step hx29]; exact h1) 
      · refine Ops.q (q_cmp rfl rfl (c_nlt (by omega))) ?_
        refine Ops.to rfl ?_
        refine Cd.seq ?_
        refine Cd.cond_f rfl ?_
        refine Cd.exitTo rfl ?_
        refine Cd.region ?_
        refine Ops.q (q_ar rfl rfl (a_inc (by omega))) ?_
        refine Ops.q (q_mv rfl) ?_
        refine Ops.rnd ((q + 1, ra, rc)) rfl (by dsimp only; exact (by omega)) (by dsimp only; omega) ⟨rfl, rfl, rfl, rfl, rfl, rfl, rfl, rfl, rfl, rfl, trivial⟩ (fun _ hs => by have h1 := (((((hs.pull (.there (.there (.there (.there .here))))).pull (.there (.there (.there (.there .here))))).pull (.there (.there (.there (.there .here))))).pull (.there (.there (.there (.there .here))))).pull (.there (.there (.there (.there .here))))); have hce : c = xr.length := (by omega); rw [hce] at h1; dsimp only; rw [rows_step hxq]; exact h1) 
    · refine Ops.q (q_cmp rfl rfl (c_nlt (by omega))) ?_
      have hqe : q = ls.length := by omega
      rw [hqe]
      refine Ops.to rfl ?_
      refine Cd.seq ?_
      refine Cd.cond_f rfl ?_
      refine Cd.exitTo rfl ?_
      refine Cd.seq ?_
      refine Cd.seq ?_
      refine Cd.region ?_
      refine Ops.q (q_fa fo_36_2 rfl) ?_
      refine Ops.q (q_ldB isA_23 rfl (.there (.there (.there .here))) rfl) ?_
      refine Ops.q (q_len esz_23 rfl) ?_
      refine Ops.q (q_mv rfl) ?_
      refine Ops.to rfl ?_
      refine Cd.block ?_
      refine Cd.lp (σ := Nat × Option Addr × Nat) (fun s => s.1 ≤ acc.length) (fun s => [(1, .pointer (some ⟨b1, 0, none⟩)), (2, .pointer (some ⟨b2, 0, none⟩)), (5, .int .i64 (ls.length : Int)), (6, .int .i64 (l0.2.length : Int)), (7, .pointer (some ⟨b9, 0, none⟩)), (11, .func (.func 50) #[.pointer (some ⟨b9, 0, none⟩)] #[]), (12, .func (.func 51) #[.pointer (some ⟨b9, 0, none⟩)] #[]), (101, .slice aa acc.length ac), (102, .int .i64 (acc.length : Int)), (103, .int .i64 (s.1 : Int))]) (fun s => [blk b9 114 [.slice a24 ((((([] : List Prm) ++ (List.replicate ls.length (1 : Int)).map (setTh (gateP 0))) ++ (List.replicate (ls.length * l0.2.length) (2 : Int)).map (setTh (gateP 0))) ++ [(1 : Int)].map (setTh (gateP 0))).length) c25, .int .i64 ((l0.2.length + 1 : Nat) : Int), .slice s.2.1 ((((([] : List Syn) ++ [(⟨-1 - (l0.2.length : Int), st, 1, 1⟩ : Syn)]) ++ rowsTo ls.length l0.2.length (ls.map (·.2)) ls.length) ++ accTo ls.length l0.2.length acc s.1).length) s.2.2], row a24 c25 116 8 ((((([] : List Prm) ++ (List.replicate ls.length (1 : Int)).map (setTh (gateP 0))) ++ (List.replicate (ls.length * l0.2.length) (2 : Int)).map (setTh (gateP 0))) ++ [(1 : Int)].map (setTh (gateP 0))).length) ((((([] : List Prm) ++ (List.replicate ls.length (1 : Int)).map (setTh (gateP 0))) ++ (List.replicate (ls.length * l0.2.length) (2 : Int)).map (setTh (gateP 0))) ++ [(1 : Int)].map (setTh (gateP 0))).flatMap ePrm), row s.2.1 s.2.2 126 4 ((((([] : List Syn) ++ [(⟨-1 - (l0.2.length : Int), st, 1, 1⟩ : Syn)]) ++ rowsTo ls.length l0.2.length (ls.map (·.2)) ls.length) ++ accTo ls.length l0.2.length acc s.1).length) ((((([] : List Syn) ++ [(⟨-1 - (l0.2.length : Int), st, 1, 1⟩ : Syn)]) ++ rowsTo ls.length l0.2.length (ls.map (·.2)) ls.length) ++ accTo ls.length l0.2.length acc s.1).flatMap eSyn), blk b1 36 [.slice (some ⟨nb, no, none⟩) ls.length nc, .int .i64 st, .slice aa acc.length ac], blk b2 32 [.slice none 0 0, .int .i64 0, .slice none 0 0]]) (fun s => acc.length - s.1) (0, qa, qc) (Nat.zero_le _) ⟨rfl, rfl, rfl, rfl, rfl, rfl, rfl, rfl, rfl, rfl, trivial⟩ (fun _ hs => by have h1 := (((((hs.pull (.there (.there (.there (.there .here))))).pull (.there (.there (.there (.there .here))))).pull (.there (.there (.there (.there .here))))).pull (.there (.there (.there (.there .here))))).pull (.there (.there (.there (.there .here))))); (try dsimp only); rw [show (((([] : List Syn) ++ [(⟨-1 - (l0.2.length : Int), st, 1, 1⟩ : Syn)]) ++ rowsTo ls.length l0.2.length (ls.map (·.2)) ls.length) ++ accTo ls.length l0.2.length acc 0) = ((([] : List Syn) ++ [(⟨-1 - (l0.2.length : Int), st, 1, 1⟩ : Syn)]) ++ rowsTo ls.length l0.2.length (ls.map (·.2)) ls.length) from List.append_nil _]; exact h1) ?_
      rintro ⟨q, ra, rc⟩ hI
      dsimp only at hI
      change Cd _ _ _ _ _ _ _ [(1, .pointer (some ⟨b1, 0, none⟩)), (2, .pointer (some ⟨b2, 0, none⟩)), (5, .int .i64 (ls.length : Int)), (6, .int .i64 (l0.2.length : Int)), (7, .pointer (some ⟨b9, 0, none⟩)), (11, .func (.func 50) #[.pointer (some ⟨b9, 0, none⟩)] #[]), (12, .func (.func 51) #[.pointer (some ⟨b9, 0, none⟩)] #[]), (101, .slice aa acc.length ac), (102, .int .i64 (acc.length : Int)), (103, .int .i64 (q : Int))] ([blk b9 114 [.slice a24 ((((([] : List Prm) ++ (List.replicate ls.length (1 : Int)).map (setTh (gateP 0))) ++ (List.replicate (ls.length * l0.2.length) (2 : Int)).map (setTh (gateP 0))) ++ [(1 : Int)].map (setTh (gateP 0))).length) c25, .int .i64 ((l0.2.length + 1 : Nat) : Int), .slice ra ((((([] : List Syn) ++ [(⟨-1 - (l0.2.length : Int), st, 1, 1⟩ : Syn)]) ++ rowsTo ls.length l0.2.length (ls.map (·.2)) ls.length) ++ accTo ls.length l0.2.length acc q).length) rc], row a24 c25 116 8 ((((([] : List Prm) ++ (List.replicate ls.length (1 : Int)).map (setTh (gateP 0))) ++ (List.replicate (ls.length * l0.2.length) (2 : Int)).map (setTh (gateP 0))) ++ [(1 : Int)].map (setTh (gateP 0))).length) ((((([] : List Prm) ++ (List.replicate ls.length (1 : Int)).map (setTh (gateP 0))) ++ (List.replicate (ls.length * l0.2.length) (2 : Int)).map (setTh (gateP 0))) ++ [(1 : Int)].map (setTh (gateP 0))).flatMap ePrm), row ra rc 126 4 ((((([] : List Syn) ++ [(⟨-1 - (l0.2.length : Int), st, 1, 1⟩ : Syn)]) ++ rowsTo ls.length l0.2.length (ls.map (·.2)) ls.length) ++ accTo ls.length l0.2.length acc q).length) ((((([] : List Syn) ++ [(⟨-1 - (l0.2.length : Int), st, 1, 1⟩ : Syn)]) ++ rowsTo ls.length l0.2.length (ls.map (·.2)) ls.length) ++ accTo ls.length l0.2.length acc q).flatMap eSyn), blk b1 36 [.slice (some ⟨nb, no, none⟩) ls.length nc, .int .i64 st, .slice aa acc.length ac], blk b2 32 [.slice none 0 0, .int .i64 0, .slice none 0 0]])
      refine Cd.seq ?_
      refine Cd.region ?_
      by_cases hq4 : (q : Int) < (acc.length : Int)
      · refine Ops.q (q_cmp rfl rfl (c_lt hq4)) ?_
        obtain ⟨x36, hx37⟩ : ∃ x, acc[q]? = some x := ⟨_, List.getElem?_eq_getElem (by omega)⟩
        obtain ⟨ab38, ao39, rfl⟩ := RoL.pos hA eBool_len hx37
        have hrl := rowsTo_len (s := ls.length) hrow (i := ls.length) (by rw [List.length_map]; omega)
        have hq3 : ls.length * (l0.2.length * 3) ≤ 32 * 48 := Nat.mul_le_mul (by omega) (by omega)
        have hacl := accTo_len ls.length l0.2.length acc q
        refine Ops.to rfl ?_
        refine Cd.seq ?_
        refine Cd.cond_t rfl ?_
        refine Cd.skipTo rfl ?_
        refine Cd.seq ?_
        refine Cd.block ?_
        refine Cd.seq ?_
        refine Cd.region ?_
        refine Ops.q (q_mv rfl) ?_
        refine Ops.q (q_ix (k := q) esz_23 rfl rfl (by omega)) ?_
        refine Ops.q (q_ldR isA_4 rfl (hA.at0 eBool_len hx37 rfl)) ?_
        refine Ops.q (q_asg rfl) ?_
        refine Ops.q (q_asg rfl) ?_
        refine Ops.to rfl ?_
        refine Cd.seq ?_
        refine Cd.region ?_
        refine Ops.q (q_mv rfl) ?_
        refine Ops.to rfl ?_
        refine Cd.cond rfl (fun h40 => ?_) (fun h40 => ?_)
        · refine Cd.region ?_
          refine Ops.q (q_mv rfl) ?_
          refine Ops.q (q_mv rfl) ?_
          refine Ops.q (q_mv rfl) ?_
          refine Ops.q (q_mv rfl) ?_
          refine Ops.q (q_mv rfl) ?_
          refine Ops.q (q_ar (v := ((ls.length * l0.2.length : Nat) : Int)) rfl rfl ((by rw [a_mul (by rw [← Int.natCast_mul]; omega), ← Int.natCast_mul]))) ?_
          refine Ops.q (q_ar (v := ((ls.length + ls.length * l0.2.length : Nat) : Int)) rfl rfl ((by rw [a_add (by omega)]; rfl))) ?_
          refine Ops.cv (α := Option Addr × Nat) (k := 50) (first := [.pointer (some ⟨b9, 0, none⟩)]) (caps := []) (vs := [.int .i64 (q : Int), .int .i64 ((ls.length + ls.length * l0.2.length : Nat) : Int), .int .i64 1, .int .i64 1]) (v := fun _ => .tuple #[]) (A' := fun p => [blk b9 114 [.slice a24 ((((([] : List Prm) ++ (List.replicate ls.length (1 : Int)).map (setTh (gateP 0))) ++ (List.replicate (ls.length * l0.2.length) (2 : Int)).map (setTh (gateP 0))) ++ [(1 : Int)].map (setTh (gateP 0))).length) c25, .int .i64 ((l0.2.length + 1 : Nat) : Int), .slice p.1 (((((([] : List Syn) ++ [(⟨-1 - (l0.2.length : Int), st, 1, 1⟩ : Syn)]) ++ rowsTo ls.length l0.2.length (ls.map (·.2)) ls.length) ++ accTo ls.length l0.2.length acc q) ++ [(⟨(q : Int), ((ls.length + ls.length * l0.2.length : Nat) : Int), 1, 1⟩ : Syn)]).length) p.2], row a24 c25 116 8 ((((([] : List Prm) ++ (List.replicate ls.length (1 : Int)).map (setTh (gateP 0))) ++ (List.replicate (ls.length * l0.2.length) (2 : Int)).map (setTh (gateP 0))) ++ [(1 : Int)].map (setTh (gateP 0))).length) ((((([] : List Prm) ++ (List.replicate ls.length (1 : Int)).map (setTh (gateP 0))) ++ (List.replicate (ls.length * l0.2.length) (2 : Int)).map (setTh (gateP 0))) ++ [(1 : Int)].map (setTh (gateP 0))).flatMap ePrm), row p.1 p.2 126 4 (((((([] : List Syn) ++ [(⟨-1 - (l0.2.length : Int), st, 1, 1⟩ : Syn)]) ++ rowsTo ls.length l0.2.length (ls.map (·.2)) ls.length) ++ accTo ls.length l0.2.length acc q) ++ [(⟨(q : Int), ((ls.length + ls.length * l0.2.length : Nat) : Int), 1, 1⟩ : Syn)]).length) (((((([] : List Syn) ++ [(⟨-1 - (l0.2.length : Int), st, 1, 1⟩ : Syn)]) ++ rowsTo ls.length l0.2.length (ls.map (·.2)) ls.length) ++ accTo ls.length l0.2.length acc q) ++ [(⟨(q : Int), ((ls.length + ls.length * l0.2.length : Nat) : Int), 1, 1⟩ : Syn)]).flatMap eSyn), blk b1 36 [.slice (some ⟨nb, no, none⟩) ls.length nc, .int .i64 st, .slice (some ⟨ab38, ao39, none⟩) acc.length ac], blk b2 32 [.slice none 0 0, .int .i64 0, .slice none 0 0]]) en_50 rfl rfl (fun w hs => join_c _ _ _ _ _ (((([] : List Prm) ++ (List.replicate ls.length (1 : Int)).map (setTh (gateP 0))) ++ (List.replicate (ls.length * l0.2.length) (2 : Int)).map (setTh (gateP 0))) ++ [(1 : Int)].map (setTh (gateP 0))) _ (((([] : List Syn) ++ [(⟨-1 - (l0.2.length : Int), st, 1, 1⟩ : Syn)]) ++ rowsTo ls.length l0.2.length (ls.map (·.2)) ls.length) ++ accTo ls.length l0.2.length acc q) (q : Int) ((ls.length + ls.length * l0.2.length : Nat) : Int) 1 1 _ w _ (by simp only [List.length_append, List.length_cons, List.length_nil, hrl]; omega) ((((((hs.pull (.there (.there (.there (.there .here))))).pull (.there (.there (.there (.there .here))))).pull (.there (.there (.there (.there .here))))).pull (.there (.there (.there (.there .here))))).pull (.there (.there (.there (.there .here))))))) ?_
          rintro ⟨a41, c42⟩
          refine Ops.to rfl ?_
          refine Cd.region ?_
          refine Ops.q (q_ar rfl rfl (a_inc (by omega))) ?_
          refine Ops.q (q_mv rfl) ?_
          refine Ops.rnd ((q + 1, a41, c42)) rfl (by dsimp only; exact (by omega)) (by dsimp only; omega) ⟨rfl, rfl, rfl, rfl, rfl, rfl, rfl, rfl, rfl, rfl, trivial⟩ (fun _ hs => by have h1 := (((((hs.pull (.there (.there (.there (.there .here))))).pull (.there (.there (.there (.there .here))))).pull (.there (.there (.there (.there .here))))).pull (.there (.there (.there (.there .here))))).pull (.there (.there (.there (.there .here))))); dsimp only; rw [acc_step hx37, if_pos h40]; exact h1) 
        · refine Cd.skipTo rfl ?_
          refine Cd.region ?_
          refine Ops.q (q_ar rfl rfl (a_inc (by omega))) ?_
          refine Ops.q (q_mv rfl) ?_
          refine Ops.rnd ((q + 1, ra, rc)) rfl (by dsimp only; exact (by omega)) (by dsimp only; omega) ⟨rfl, rfl, rfl, rfl, rfl, rfl, rfl, rfl, rfl, rfl, trivial⟩ (fun _ hs => by have h1 := (((((hs.pull (.there (.there (.there (.there .here))))).pull (.there (.there (.there (.there .here))))).pull (.there (.there (.there (.there .here))))).pull (.there (.there (.there (.there .here))))).pull (.there (.there (.there (.there .here))))); dsimp only; rw [acc_step hx37, if_neg (by simp [h40]), List.append_nil]; exact h1) 
      · refine Ops.q (q_cmp rfl rfl (c_nlt (by omega))) ?_
        refine Ops.to rfl ?_
        refine Cd.seq ?_
        refine Cd.cond_f rfl ?_
        refine Cd.exitTo rfl ?_
        refine Cd.seq ?_
        refine Cd.region ?_
        refine Ops.q (q_fa fo_114_0 rfl) ?_
        refine Ops.q (q_ldBN [.slice a24 ((((([] : List Prm) ++ (List.replicate ls.length (1 : Int)).map (setTh (gateP 0))) ++ (List.replicate (ls.length * l0.2.length) (2 : Int)).map (setTh (gateP 0))) ++ [(1 : Int)].map (setTh (gateP 0))).length) c25, .int .i64 ((l0.2.length + 1 : Nat) : Int), .slice ra ((((([] : List Syn) ++ [(⟨-1 - (l0.2.length : Int), st, 1, 1⟩ : Syn)]) ++ rowsTo ls.length l0.2.length (ls.map (·.2)) ls.length) ++ accTo ls.length l0.2.length acc q).length) rc] isA_32 sz_32 rfl .here rfl) ?_
        refine Ops.stB [.slice a24 ((((([] : List Prm) ++ (List.replicate ls.length (1 : Int)).map (setTh (gateP 0))) ++ (List.replicate (ls.length * l0.2.length) (2 : Int)).map (setTh (gateP 0))) ++ [(1 : Int)].map (setTh (gateP 0))).length) c25, .int .i64 ((l0.2.length + 1 : Nat) : Int), .slice ra ((((([] : List Syn) ++ [(⟨-1 - (l0.2.length : Int), st, 1, 1⟩ : Syn)]) ++ rowsTo ls.length l0.2.length (ls.map (·.2)) ls.length) ++ accTo ls.length l0.2.length acc q).length) rc] [.slice a24 ((((([] : List Prm) ++ (List.replicate ls.length (1 : Int)).map (setTh (gateP 0))) ++ (List.replicate (ls.length * l0.2.length) (2 : Int)).map (setTh (gateP 0))) ++ [(1 : Int)].map (setTh (gateP 0))).length) c25, .int .i64 ((l0.2.length + 1 : Nat) : Int), .slice ra ((((([] : List Syn) ++ [(⟨-1 - (l0.2.length : Int), st, 1, 1⟩ : Syn)]) ++ rowsTo ls.length l0.2.length (ls.map (·.2)) ls.length) ++ accTo ls.length l0.2.length acc q).length) rc] sz_32 rfl rfl rfl (one rfl) (.there (.there (.there (.there .here)))) rfl rfl ?_
        refine Ops.q (q_asg rfl) ?_
        refine Ops.to rfl ?_
        refine Cd.rt (fn := Try.f14) [.agg [.slice a24 ((((([] : List Prm) ++ (List.replicate ls.length (1 : Int)).map (setTh (gateP 0))) ++ (List.replicate (ls.length * l0.2.length) (2 : Int)).map (setTh (gateP 0))) ++ [(1 : Int)].map (setTh (gateP 0))).length) c25, .int .i64 ((l0.2.length + 1 : Nat) : Int), .slice ra ((((([] : List Syn) ++ [(⟨-1 - (l0.2.length : Int), st, 1, 1⟩ : Syn)]) ++ rowsTo ls.length l0.2.length (ls.map (·.2)) ls.length) ++ accTo ls.length l0.2.length acc q).length) rc].toArray, .int .i64 0] (by with_reducible repeat (first | exact rq_here | apply rq_then | apply rq_block)) rfl ⟨⟨_, _, rfl, fun _ hs => run_loadN isA_32 sz_32 (fun o u hu => Sat.atB (.there (.there (.there (.there .here)))) (by rw [Nat.zero_add]; exact hu) hs)⟩, rfl, trivial⟩ ?_
        intro w' hs'
        have hqe : q = acc.length := by omega
        rw [hqe] at hs'
        have hP : machineP (ls.map (·.2)) st acc = .ok ⟨(((([] : List Prm) ++ (List.replicate ls.length (1 : Int)).map (setTh (gateP 0))) ++ (List.replicate (ls.length * l0.2.length) (2 : Int)).map (setTh (gateP 0))) ++ [(1 : Int)].map (setTh (gateP 0))), ((l0.2.length + 1 : Nat) : Int), (((([] : List Syn) ++ [(⟨-1 - (l0.2.length : Int), st, 1, 1⟩ : Syn)]) ++ rowsTo ls.length l0.2.length (ls.map (·.2)) ls.length) ++ accTo ls.length l0.2.length acc acc.length)⟩ := by unfold machineP; rw [if_neg (by simpa using h3)]; unfold machineN; rw [hhd, List.length_map]; rfl
        rw [hP]
        exact ⟨(a24, c25), (ra, rc), by rw [hqe]; rfl, (((((hs'.pull (.there (.there .here))).pull (.there (.there .here))).pull (.there (.there .here))).drop.pull (.there (.there .here))).drop.pull (.there (.there .here))).drop⟩
  · refine Ops.q (q_cmp rfl rfl (c_ne h3)) ?_
    refine Ops.to rfl ?_
    refine Cd.cond_t rfl ?_
    refine Cd.seq ?_
    refine Cd.region ?_
    refine Ops.q (q_bld [.slice none 0 0, .int .i64 0, .slice none 0 0] pls_32 zc_32 rfl rfl) ?_
    refine Ops.q (q_mv rfl) ?_
    refine Ops.stB [.slice none 0 0, .int .i64 0, .slice none 0 0] [.slice none 0 0, .int .i64 0, .slice none 0 0] sz_32 rfl rfl rfl (one rfl) .here rfl rfl ?_
    refine Ops.q (q_asg rfl) ?_
    refine Ops.to rfl ?_
    refine Cd.rt (fn := Try.f14) [.agg [.slice none 0 0, .int .i64 0, .slice none 0 0].toArray, .int .i64 (autoE (ls.map (fun l : NL => l.2)) st acc.length)] (by with_reducible repeat (first | exact rq_here | apply rq_then | apply rq_block)) rfl ⟨⟨_, _, rfl, fun _ hs => run_loadN isA_32 sz_32 (fun o u hu => Sat.atB .here (by rw [Nat.zero_add]; exact hu) hs)⟩, rfl, trivial⟩ ?_
    intro w' hs'
    rw [show machineP (ls.map (·.2)) st acc = .error (autoE (ls.map (·.2)) st acc.length) by unfold machineP; rw [if_pos h3]]
    exact ⟨rfl, hs'.none⟩
end Go.Proofs.Ytilcdghliigngaa
namespace Go.Proofs.Ytilcdghliigngaa
open Go.RowKit Go.Proofs.YtilcdghliigngaaGl Go.Proofs.YtilcdghliigngaaPm
set_option linter.unusedVariables false
set_option linter.unusedSimpArgs false
def stOk (n : Nat) (e : Evt) : Prop := wi e.id 0 ((n : Int) - 1) ∧ e.tick % 3 = 1
instance (n : Nat) (e : Evt) : Decidable (stOk n e) := inferInstanceAs (Decidable (_ ∧ _))
def stF (n : Nat) (evs : List Evt) : List Int := (evs.filter (fun e => decide (stOk n e))).map (·.id)
def statesP (nx : List (List Int)) (st : Int) (al : Nat) (evs : List Evt) : Except Int (List Int) := if autoE nx st al ≠ 0 then .error (autoE nx st al) else .ok (stF nx.length evs)
theorem stF_app {n : Nat} {evs : List Evt} {k : Nat} {x : Evt} (hx : evs[k]? = some x) : stF n (evs.take (k + 1)) = stF n (evs.take k) ++ (if stOk n x then [x.id] else []) := by
  unfold stF
  rw [List.take_add_one, hx, List.filter_append, List.map_append]
  congr 1
  by_cases h : stOk n x <;> simp [h]
theorem stF_len (n : Nat) (evs : List Evt) : (stF n evs).length ≤ evs.length := by
  unfold stF; rw [List.length_map]; exact List.length_filter_le _ _
theorem a_remT {i j : Int} (hj : j ≠ 0) : arV .rem .i64 i j = some (i.tmod j) := by simp only [arV, if_neg hj]
theorem tmod3 (t : Int) : (t.tmod 3 = 1 ∨ t.tmod 3 = -2) ↔ t % 3 = 1 := by
  rcases Int.le_total 0 t with h | h
  · rw [Int.tmod_eq_emod_of_nonneg h]; omega
  · have e : t = -(-t) := by omega
    rw [e, Int.neg_tmod, Int.tmod_eq_emod_of_nonneg (by omega)]; omega
theorem states_c (na : Option Addr) (nc : Nat) (ls : List NL) (st : Int) (aa : Option Addr) (al ac : Nat) (ea : Option Addr) (ec : Nat) (evs : List Evt) (w : World) (hL : RoLL w na ls) (hE : RoL w ea eEvt evs) (hel : evs.length ≤ 1000000) : Calls Try.prog 21 [.agg [.slice na ls.length nc, .int .i64 st, .slice aa al ac].toArray, .slice ea evs.length ec].toArray w (RetL (statesP (ls.map (·.2)) st al evs) w) := by
  refine fstart Try.func21 rfl rfl (Sat.nil w) ?_
  refine Cd.seq ?_
  refine Cd.region ?_
  refine Ops.box [.slice na ls.length nc, .int .i64 st, .slice aa al ac] rfl rfl ?_
  intro b1
  refine Ops.q (q_asg rfl) ?_
  refine Ops.q (q_asg rfl) ?_
  refine Ops.to rfl ?_
  refine Cd.seq ?_
  refine Cd.seq ?_
  refine Cd.region ?_
  refine Ops.q (q_ldBN [.slice na ls.length nc, .int .i64 st, .slice aa al ac] isA_36 sz_36 rfl .here rfl) ?_
  refine Ops.cp en_47 rfl (fun w hs => acheck_c _ _ ls st _ al _ w (hL.later hs.below)) ?_
  refine Ops.q (q_asg rfl) ?_
  refine Ops.to rfl ?_
  refine Cd.seq ?_
  refine Cd.region ?_
  refine Ops.q (q_mv rfl) ?_
  by_cases h2 : autoE (ls.map (fun l : NL => l.2)) st al = 0
  · refine Ops.q (q_cmp rfl rfl (c_nne h2)) ?_
    have hao := autoE_ok h2
    rw [List.length_map] at hao
    have hw1 := hao.1
    unfold wi at hw1
    refine Ops.to rfl ?_
    refine Cd.cond_f rfl ?_
    refine Cd.skipTo rfl ?_
    refine Cd.seq ?_
    refine Cd.region ?_
    refine Ops.q (q_asg rfl) ?_
    refine Ops.to rfl ?_
    refine Cd.seq ?_
    refine Cd.seq ?_
    refine Cd.region ?_
    refine Ops.q (q_mv rfl) ?_
    refine Ops.q (q_len esz_27 rfl) ?_
    refine Ops.q (q_mv rfl) ?_
    refine Ops.to rfl ?_
    refine Cd.block ?_
    refine Cd.lp (σ := Nat × Option Addr × Nat) (fun s => s.1 ≤ evs.length) (fun s => [(2, .pointer (some ⟨b1, 0, none⟩)), (7, .slice s.2.1 ((stF ls.length (evs.take s.1)).length) s.2.2), (15, .slice ea evs.length ec), (16, .int .i64 (evs.length : Int)), (17, .int .i64 (s.1 : Int))]) (fun s => [blk b1 36 [.slice na ls.length nc, .int .i64 st, .slice aa al ac], row s.2.1 s.2.2 3 1 ((stF ls.length (evs.take s.1)).length) ((stF ls.length (evs.take s.1)).flatMap eInt)]) (fun s => evs.length - s.1) (0, none, 0) (Nat.zero_le _) ⟨rfl, rfl, rfl, rfl, rfl, trivial⟩ (fun _ hs => by have h1 := ((hs.pull .here)).nilRow 3 1; exact h1.pull (.there .here)) ?_
    rintro ⟨k, pa, pc⟩ hI
    dsimp only at hI
    change Cd _ _ _ _ _ _ _ [(2, .pointer (some ⟨b1, 0, none⟩)), (7, .slice pa ((stF ls.length (evs.take k)).length) pc), (15, .slice ea evs.length ec), (16, .int .i64 (evs.length : Int)), (17, .int .i64 (k : Int))] ([blk b1 36 [.slice na ls.length nc, .int .i64 st, .slice aa al ac], row pa pc 3 1 ((stF ls.length (evs.take k)).length) ((stF ls.length (evs.take k)).flatMap eInt)])
    refine Cd.seq ?_
    refine Cd.region ?_
    by_cases hk : (k : Int) < (evs.length : Int)
    · refine Ops.q (q_cmp rfl rfl (c_lt hk)) ?_
      obtain ⟨x3, hx4⟩ : ∃ x, evs[k]? = some x := ⟨_, List.getElem?_eq_getElem (by omega)⟩
      obtain ⟨ab5, ao6, rfl⟩ := RoL.pos hE eEvt_len hx4
      have hfl := stF_len ls.length (evs.take k)
      rw [List.length_take] at hfl
      refine Ops.to rfl ?_
      refine Cd.seq ?_
      refine Cd.cond_t rfl ?_
      refine Cd.skipTo rfl ?_
      refine Cd.seq ?_
      refine Cd.block ?_
      refine Cd.seq ?_
      refine Cd.region ?_
      refine Ops.q (q_ix (k := k) esz_27 rfl rfl (by omega)) ?_
      refine Ops.q (q_ldRN [.int .i64 x3.tick, .int .i64 x3.id] isA_88 sz_88 rfl (fun j u hu => hE.at eEvt_len hx4 hu)) ?_
      refine Ops.alc [.int .i64 0, .int .i64 0] zc_88 ?_
      intro b7
      refine Ops.stB [.int .i64 x3.tick, .int .i64 x3.id] [.int .i64 x3.tick, .int .i64 x3.id] sz_88 rfl rfl rfl (one rfl) .here rfl rfl ?_
      refine Ops.to rfl ?_
      refine Cd.seq ?_
      refine Cd.region ?_
      refine Ops.q (q_fa fo_88_1 rfl) ?_
      refine Ops.q (q_ldB isA_3 rfl .here rfl) ?_
      refine Ops.q (q_fa fo_36_0 rfl) ?_
      refine Ops.q (q_ldB isA_22 rfl (.there .here) rfl) ?_
      refine Ops.q (q_len esz_22 rfl) ?_
      refine Ops.q (q_ar rfl rfl (a_sub (by omega))) ?_
      by_cases h8 : wi x3.id 0 ((ls.length : Int) - 1)
      · refine Ops.cp en_57 rfl (fun w hs => dT (in_c _ _ _ w) h8) ?_
        refine Ops.q (q_mv rfl) ?_
        refine Ops.q (q_fa fo_88_0 rfl) ?_
        refine Ops.q (q_ldB isA_3 rfl .here rfl) ?_
        refine Ops.q (q_ar (v := (x3.tick).tmod 3) rfl rfl (a_remT (by decide))) ?_
        by_cases h9 : (x3.tick).tmod 3 = 1
        · refine Ops.q (q_cmp rfl rfl (c_eq h9)) ?_
          refine Ops.q (q_mv rfl) ?_
          refine Ops.sk ?_
          refine Ops.sk ?_
          refine Ops.sk ?_
          refine Ops.sk ?_
          refine Ops.q (q_pickT rfl rfl) ?_
          refine Ops.q (q_pickT rfl rfl) ?_
          refine Ops.to rfl ?_
          refine Cd.cond_t rfl ?_
          refine Cd.region ?_
          refine Ops.q (q_mv rfl) ?_
          refine Ops.q (q_fa fo_88_1 rfl) ?_
          refine Ops.q (q_ldB isA_3 rfl .here rfl) ?_
          refine Ops.lit [.int .i64 x3.id] el_26 zsb_3 rfl rfl ⟨by decide, by decide⟩ rfl ?_
          intro b10
          refine Ops.app (news := [.int .i64 x3.id]) el_26 zsb_3 (by decide) rfl rfl (fun _ hs => hs.ownRo .here) (fun _ hs => (hs.pull .here).drop) (fun _ _ => (.there (.there .here))) rfl (one rfl) (by omega) (by omega) ?_
          intro a11 c12
          refine Ops.q (q_asg rfl) ?_
          refine Ops.to rfl ?_
          refine Cd.region ?_
          refine Ops.q (q_ar rfl rfl (a_inc (by omega))) ?_
          refine Ops.q (q_mv rfl) ?_
          refine Ops.rnd ((k + 1, a11, c12)) rfl (by dsimp only; exact (by omega)) (by dsimp only; omega) ⟨rfl, (by (try dsimp only); rw [stF_app hx4, if_pos (by unfold stOk; refine ⟨h8, ?_⟩; rw [← tmod3]; simp_all), List.length_append]; rfl), rfl, rfl, rfl, trivial⟩ (fun _ hs => by have h1 := (((hs.pull (.there (.there .here))).pull (.there (.there .here))).pull (.there (.there .here))).drop; (try dsimp only); rw [stF_app hx4, if_pos (by unfold stOk; refine ⟨h8, ?_⟩; rw [← tmod3]; simp_all), fm_app, List.length_append]; exact h1) 
        · refine Ops.q (q_cmp rfl rfl (c_neq h9)) ?_
          refine Ops.q (q_mv rfl) ?_
          refine Ops.q (q_fa fo_88_0 rfl) ?_
          refine Ops.q (q_ldB isA_3 rfl .here rfl) ?_
          refine Ops.q (q_ar (v := (x3.tick).tmod 3) rfl rfl (a_remT (by decide))) ?_
          by_cases h13 : (x3.tick).tmod 3 = -2
          · refine Ops.q (q_cmp rfl rfl (c_eq h13)) ?_
            refine Ops.q (q_pickF rfl rfl) ?_
            refine Ops.q (q_pickT rfl rfl) ?_
            refine Ops.to rfl ?_
            refine Cd.cond_t rfl ?_
            refine Cd.region ?_
            refine Ops.q (q_mv rfl) ?_
            refine Ops.q (q_fa fo_88_1 rfl) ?_
            refine Ops.q (q_ldB isA_3 rfl .here rfl) ?_
            refine Ops.lit [.int .i64 x3.id] el_26 zsb_3 rfl rfl ⟨by decide, by decide⟩ rfl ?_
            intro b14
            refine Ops.app (news := [.int .i64 x3.id]) el_26 zsb_3 (by decide) rfl rfl (fun _ hs => hs.ownRo .here) (fun _ hs => (hs.pull .here).drop) (fun _ _ => (.there (.there .here))) rfl (one rfl) (by omega) (by omega) ?_
            intro a15 c16
            refine Ops.q (q_asg rfl) ?_
            refine Ops.to rfl ?_
            refine Cd.region ?_
            refine Ops.q (q_ar rfl rfl (a_inc (by omega))) ?_
            refine Ops.q (q_mv rfl) ?_
            refine Ops.rnd ((k + 1, a15, c16)) rfl (by dsimp only; exact (by omega)) (by dsimp only; omega) ⟨rfl, (by (try dsimp only); rw [stF_app hx4, if_pos (by unfold stOk; refine ⟨h8, ?_⟩; rw [← tmod3]; simp_all), List.length_append]; rfl), rfl, rfl, rfl, trivial⟩ (fun _ hs => by have h1 := (((hs.pull (.there (.there .here))).pull (.there (.there .here))).pull (.there (.there .here))).drop; (try dsimp only); rw [stF_app hx4, if_pos (by unfold stOk; refine ⟨h8, ?_⟩; rw [← tmod3]; simp_all), fm_app, List.length_append]; exact h1) 
          · refine Ops.q (q_cmp rfl rfl (c_neq h13)) ?_
            refine Ops.q (q_pickF rfl rfl) ?_
            refine Ops.q (q_pickT rfl rfl) ?_
            refine Ops.to rfl ?_
            refine Cd.cond_f rfl ?_
            refine Cd.skipTo rfl ?_
            refine Cd.region ?_
            refine Ops.q (q_ar rfl rfl (a_inc (by omega))) ?_
            refine Ops.q (q_mv rfl) ?_
            refine Ops.rnd ((k + 1, pa, pc)) rfl (by dsimp only; exact (by omega)) (by dsimp only; omega) ⟨rfl, (by (try dsimp only); rw [stF_app hx4, if_neg (by unfold stOk; rw [← tmod3]; simp_all), List.append_nil]; rfl), rfl, rfl, rfl, trivial⟩ (fun _ hs => by have h1 := (((hs.pull (.there (.there .here))).pull (.there (.there .here))).pull (.there (.there .here))).drop; (try dsimp only); rw [stF_app hx4, if_neg (by unfold stOk; rw [← tmod3]; simp_all), List.append_nil]; exact h1) 
      · refine Ops.cp en_57 rfl (fun w hs => dF (in_c _ _ _ w) h8) ?_
        refine Ops.q (q_mv rfl) ?_
        refine Ops.sk ?_
        refine Ops.sk ?_
        refine Ops.sk ?_
        refine Ops.sk ?_
        refine Ops.sk ?_
        refine Ops.sk ?_
        refine Ops.sk ?_
        refine Ops.sk ?_
        refine Ops.sk ?_
        refine Ops.sk ?_
        refine Ops.q (q_pickF rfl rfl) ?_
        refine Ops.to rfl ?_
        refine Cd.cond_f rfl ?_
        refine Cd.skipTo rfl ?_
        refine Cd.region ?_
        refine Ops.q (q_ar rfl rfl (a_inc (by omega))) ?_
        refine Ops.q (q_mv rfl) ?_
        refine Ops.rnd ((k + 1, pa, pc)) rfl (by dsimp only; exact (by omega)) (by dsimp only; omega) ⟨rfl, (by (try dsimp only); rw [stF_app hx4, if_neg (by unfold stOk; rw [← tmod3]; simp_all), List.append_nil]; rfl), rfl, rfl, rfl, trivial⟩ (fun _ hs => by have h1 := (((hs.pull (.there (.there .here))).pull (.there (.there .here))).pull (.there (.there .here))).drop; (try dsimp only); rw [stF_app hx4, if_neg (by unfold stOk; rw [← tmod3]; simp_all), List.append_nil]; exact h1) 
    · refine Ops.q (q_cmp rfl rfl (c_nlt (by omega))) ?_
      refine Ops.to rfl ?_
      refine Cd.seq ?_
      refine Cd.cond_f rfl ?_
      refine Cd.exitTo rfl ?_
      refine Cd.seq ?_
      refine Cd.region ?_
      refine Ops.q (q_mv rfl) ?_
      refine Ops.q (q_asg rfl) ?_
      refine Ops.q (q_asg rfl) ?_
      refine Ops.to rfl ?_
      refine Cd.rt (fn := Try.f21) [.slice pa ((stF ls.length (evs.take k)).length) pc, .int .i64 0] (by with_reducible repeat (first | exact rq_here | apply rq_then | apply rq_block)) rfl ⟨rfl, rfl, trivial⟩ ?_
      intro w' hs'
      rw [List.take_of_length_le (show evs.length ≤ k by omega)] at hs'
      rw [show statesP (ls.map (·.2)) st al evs = .ok (stF ls.length evs) by unfold statesP; rw [if_neg (by simpa using h2), List.length_map]]
      exact ⟨(pa, pc), by rw [List.take_of_length_le (show evs.length ≤ k by omega)]; rfl, hs'.only (.there .here)⟩
  · refine Ops.q (q_cmp rfl rfl (c_ne h2)) ?_
    refine Ops.to rfl ?_
    refine Cd.cond_t rfl ?_
    refine Cd.seq ?_
    refine Cd.region ?_
    refine Ops.q (q_mv rfl) ?_
    refine Ops.q (q_asg rfl) ?_
    refine Ops.q (q_asg rfl) ?_
    refine Ops.to rfl ?_
    refine Cd.rt (fn := Try.f21) [.slice none 0 0, .int .i64 (autoE (ls.map (fun l : NL => l.2)) st al)] (by with_reducible repeat (first | exact rq_here | apply rq_then | apply rq_block)) rfl ⟨rfl, rfl, trivial⟩ ?_
    intro w' hs'
    rw [show statesP (ls.map (·.2)) st al evs = .error (autoE (ls.map (·.2)) st al) by unfold statesP; rw [if_pos h2]]
    exact ⟨rfl, hs'.none⟩
end Go.Proofs.Ytilcdghliigngaa
namespace Go.Proofs.Ytilcdghliigngaa
open Go.RowKit Go.Proofs.YtilcdghliigngaaGl Go.Proofs.YtilcdghliigngaaPm
set_option linter.unusedVariables false
set_option linter.unusedSimpArgs false
def tapE (ip : Int) (t : Tap) : Int := if wi t.inp 0 (ip - 1) then (if wi t.wt 0 32768 ∧ wi t.dl 1 16 then 0 else 3) else 4
def tapS (t : Tap) : Syn := ⟨-1 - t.inp, 0, t.wt, t.dl⟩
def countP (ip : Int) (ts : List Tap) (th : Int) : Except Int NetP :=
  if wi ip 1 256 then
    if 512 < ts.length then .error 9
    else if firstE (tapE ip) ts ≠ 0 then .error (firstE (tapE ip) ts)
    else if wi th 1 1048576 then .ok ⟨[adderP th], ip, ts.map tapS⟩ else .error 3
  else .error 3
theorem tapE_4 {ip : Int} {t : Tap} (h : ¬ wi t.inp 0 (ip - 1)) : tapE ip t = 4 := by unfold tapE; rw [if_neg h]
theorem tapE_3 {ip : Int} {t : Tap} (h1 : wi t.inp 0 (ip - 1)) (h : ¬ (wi t.wt 0 32768 ∧ wi t.dl 1 16)) : tapE ip t = 3 := by unfold tapE; rw [if_pos h1, if_neg h]
theorem tapE_0 {ip : Int} {t : Tap} (h1 : wi t.inp 0 (ip - 1)) (h : wi t.wt 0 32768 ∧ wi t.dl 1 16) : tapE ip t = 0 := by unfold tapE; rw [if_pos h1, if_pos h]
theorem count_c (ip : Int) (ta : Option Addr) (tc : Nat) (ts : List Tap) (th : Int) (w : World) (hT : RoL w ta eTap ts) : Calls Try.prog 30 [.int .i64 ip, .slice ta ts.length tc, .int .i64 th].toArray w (RetR (countP ip ts th) w) := by
  refine fstart Try.func30 rfl rfl (Sat.nil w) ?_
  refine Cd.seq ?_
  refine Cd.region ?_
  refine Ops.alc [.slice none 0 0, .int .i64 0, .slice none 0 0] zc_32 ?_
  intro b1
  refine Ops.q (q_asg rfl) ?_
  refine Ops.to rfl ?_
  refine Cd.seq ?_
  refine Cd.block ?_
  refine Cd.seq ?_
  refine Cd.region ?_
  refine Ops.q (q_mv rfl) ?_
  by_cases h2 : wi ip 1 256
  · refine Ops.cp en_57 rfl (fun w hs => dT (in_c _ _ _ w) h2) ?_
    refine Ops.q (q_not rfl) ?_
    refine Ops.q (q_asg rfl) ?_
    refine Ops.to rfl ?_
    refine Cd.cond_f rfl ?_
    refine Cd.seq ?_
    refine Cd.region ?_
    have hip := h2
    unfold wi at hip
    refine Ops.q (q_mv rfl) ?_
    refine Ops.q (q_len esz_67 rfl) ?_
    by_cases h3 : 512 < (ts.length : Int)
    · refine Ops.q (q_cmp rfl rfl (c_gt h3)) ?_
      refine Ops.q (q_asg rfl) ?_
      refine Ops.to rfl ?_
      refine Cd.cond_t rfl ?_
      refine Cd.seq ?_
      refine Cd.region ?_
      refine Ops.q (q_bld [.slice none 0 0, .int .i64 0, .slice none 0 0] pls_32 zc_32 rfl rfl) ?_
      refine Ops.stB [.slice none 0 0, .int .i64 0, .slice none 0 0] [.slice none 0 0, .int .i64 0, .slice none 0 0] sz_32 rfl rfl rfl (one rfl) .here rfl rfl ?_
      refine Ops.q (q_asg rfl) ?_
      refine Ops.to rfl ?_
      refine Cd.rt (fn := Try.f30) [.agg [.slice none 0 0, .int .i64 0, .slice none 0 0].toArray, .int .i64 9] (by with_reducible repeat (first | exact rq_here | apply rq_then | apply rq_block)) rfl ⟨⟨_, _, rfl, fun _ hs => run_loadN isA_32 sz_32 (fun o u hu => Sat.atB .here (by rw [Nat.zero_add]; exact hu) hs)⟩, rfl, trivial⟩ ?_
      intro w' hs'
      rw [show countP ip ts th = .error 9 by unfold countP; rw [if_pos h2, if_pos (by omega)]]
      exact ⟨rfl, hs'.none⟩
    · refine Ops.q (q_cmp rfl rfl (c_ngt (by omega))) ?_
      refine Ops.q (q_asg rfl) ?_
      refine Ops.to rfl ?_
      refine Cd.cond_f rfl ?_
      refine Cd.skipTo rfl ?_
      refine Cd.seq ?_
      refine Cd.region ?_
      refine Ops.q (q_mv rfl) ?_
      refine Ops.q (q_bld [.slice none 0 0, .int .i64 ip, .slice none 0 0] pls_32 zc_32 rfl rfl) ?_
      refine Ops.q (q_bld [.slice none 0 0, .int .i64 ip, .slice none 0 0] pls_114 zc_114 rfl rfl) ?_
      refine Ops.alc [.slice none 0 0, .int .i64 0, .slice none 0 0] zc_114 ?_
      intro b4
      refine Ops.stB [.slice none 0 0, .int .i64 ip, .slice none 0 0] [.slice none 0 0, .int .i64 ip, .slice none 0 0] sz_114 rfl rfl rfl (one rfl) .here rfl rfl ?_
      refine Ops.to rfl ?_
      refine Cd.seq ?_
      refine Cd.seq ?_
      refine Cd.nilRow 126 4 ?_
      refine Cd.nilRow 116 8 ?_
      change Cd _ _ _ _ _ _ _ _ ([row none 0 116 8 (([] : List Prm).length) (([] : List Prm).flatMap ePrm), row none 0 126 4 (([] : List Syn).length) (([] : List Syn).flatMap eSyn), blk b4 114 [.slice none (([] : List Prm).length) 0, .int .i64 ip, .slice none (([] : List Syn).length) 0], blk b1 32 [.slice none 0 0, .int .i64 0, .slice none 0 0]])
      refine Cd.region ?_
      refine Ops.q (q_mv rfl) ?_
      refine Ops.q (q_len esz_67 rfl) ?_
      refine Ops.q (q_mv rfl) ?_
      refine Ops.to rfl ?_
      refine Cd.block ?_
      refine Cd.lp (σ := Nat × Option Addr × Nat) (fun s => s.1 ≤ ts.length ∧ firstE (tapE ip) (ts.drop s.1) = firstE (tapE ip) ts) (fun s => [(0, .int .i64 ip), (2, .int .i64 th), (6, .pointer (some ⟨b1, 0, none⟩)), (8, .pointer (some ⟨b4, 0, none⟩)), (24, .slice ta ts.length tc), (25, .int .i64 (ts.length : Int)), (26, .int .i64 (s.1 : Int))]) (fun s => [blk b4 114 [.slice none (([] : List Prm).length) 0, .int .i64 ip, .slice s.2.1 ((([] : List Syn) ++ (ts.take s.1).map tapS).length) s.2.2], row none 0 116 8 (([] : List Prm).length) (([] : List Prm).flatMap ePrm), row s.2.1 s.2.2 126 4 ((([] : List Syn) ++ (ts.take s.1).map tapS).length) ((([] : List Syn) ++ (ts.take s.1).map tapS).flatMap eSyn), blk b1 32 [.slice none 0 0, .int .i64 0, .slice none 0 0]]) (fun s => ts.length - s.1) (0, none, 0) ⟨Nat.zero_le _, rfl⟩ ⟨rfl, rfl, rfl, rfl, rfl, rfl, rfl, trivial⟩ (fun _ hs => by have h1 := ((((hs.pull (.there (.there (.there .here)))).pull (.there (.there .here))).pull (.there (.there .here))).pull (.there (.there (.there .here)))); exact h1) ?_
      rintro ⟨k, qa, qc⟩ hI
      dsimp only at hI
      change Cd _ _ _ _ _ _ _ [(0, .int .i64 ip), (2, .int .i64 th), (6, .pointer (some ⟨b1, 0, none⟩)), (8, .pointer (some ⟨b4, 0, none⟩)), (24, .slice ta ts.length tc), (25, .int .i64 (ts.length : Int)), (26, .int .i64 (k : Int))] ([blk b4 114 [.slice none (([] : List Prm).length) 0, .int .i64 ip, .slice qa ((([] : List Syn) ++ (ts.take k).map tapS).length) qc], row none 0 116 8 (([] : List Prm).length) (([] : List Prm).flatMap ePrm), row qa qc 126 4 ((([] : List Syn) ++ (ts.take k).map tapS).length) ((([] : List Syn) ++ (ts.take k).map tapS).flatMap eSyn), blk b1 32 [.slice none 0 0, .int .i64 0, .slice none 0 0]])
      have hI1 := hI.1
      refine Cd.seq ?_
      refine Cd.region ?_
      by_cases hk : (k : Int) < (ts.length : Int)
      · refine Ops.q (q_cmp rfl rfl (c_lt hk)) ?_
        obtain ⟨x5, hx6⟩ : ∃ x, ts[k]? = some x := ⟨_, List.getElem?_eq_getElem (by omega)⟩
        obtain ⟨ab7, ao8, rfl⟩ := RoL.pos hT eTap_len hx6
        refine Ops.to rfl ?_
        refine Cd.seq ?_
        refine Cd.cond_t rfl ?_
        refine Cd.skipTo rfl ?_
        refine Cd.seq ?_
        refine Cd.block ?_
        refine Cd.seq ?_
        refine Cd.region ?_
        refine Ops.q (q_ix (k := k) esz_67 rfl rfl (by omega)) ?_
        refine Ops.q (q_ldRN [.int .i64 x5.inp, .int .i64 x5.wt, .int .i64 x5.dl] isA_70 sz_70 rfl (fun j u hu => hT.at eTap_len hx6 hu)) ?_
        refine Ops.alc [.int .i64 0, .int .i64 0, .int .i64 0] zc_70 ?_
        intro b9
        refine Ops.stB [.int .i64 x5.inp, .int .i64 x5.wt, .int .i64 x5.dl] [.int .i64 x5.inp, .int .i64 x5.wt, .int .i64 x5.dl] sz_70 rfl rfl rfl (one rfl) .here rfl rfl ?_
        refine Ops.to rfl ?_
        refine Cd.seq ?_
        refine Cd.block ?_
        refine Cd.seq ?_
        refine Cd.region ?_
        refine Ops.q (q_fa fo_70_0 rfl) ?_
        refine Ops.q (q_ldB isA_3 rfl .here rfl) ?_
        refine Ops.q (q_mv rfl) ?_
        refine Ops.q (q_ar (v := ip - 1) rfl rfl (a_sub (by omega))) ?_
        by_cases h10 : wi x5.inp 0 (ip - 1)
        · refine Ops.cp en_57 rfl (fun w hs => dT (in_c _ _ _ w) h10) ?_
          refine Ops.q (q_not rfl) ?_
          refine Ops.q (q_asg rfl) ?_
          refine Ops.to rfl ?_
          refine Cd.cond_f rfl ?_
          refine Cd.seq ?_
          refine Cd.region ?_
          refine Ops.q (q_fa fo_70_1 rfl) ?_
          refine Ops.q (q_ldB isA_3 rfl .here rfl) ?_
          by_cases h11 : wi x5.wt 0 32768
          · refine Ops.cp en_57 rfl (fun w hs => dT (in_c _ _ _ w) h11) ?_
            refine Ops.q (q_not rfl) ?_
            refine Ops.q (q_mv rfl) ?_
            refine Ops.q (q_fa fo_70_2 rfl) ?_
            refine Ops.q (q_ldB isA_3 rfl .here rfl) ?_
            by_cases h12 : wi x5.dl 1 16
            · refine Ops.cp en_57 rfl (fun w hs => dT (in_c _ _ _ w) h12) ?_
              refine Ops.q (q_not rfl) ?_
              refine Ops.q (q_pickF rfl rfl) ?_
              refine Ops.q (q_asg rfl) ?_
              refine Ops.to rfl ?_
              refine Cd.cond_f rfl ?_
              refine Cd.skipTo rfl ?_
              refine Cd.region ?_
              have hti := h10
              unfold wi at hti
              refine Ops.q (q_fa fo_70_0 rfl) ?_
              refine Ops.q (q_ldB isA_3 rfl .here rfl) ?_
              refine Ops.q (q_fa fo_70_1 rfl) ?_
              refine Ops.q (q_ldB isA_3 rfl .here rfl) ?_
              refine Ops.q (q_fa fo_70_2 rfl) ?_
              refine Ops.q (q_ldB isA_3 rfl .here rfl) ?_
              refine Ops.cm (α := Option Addr × Nat) (v := fun _ => .tuple #[]) (A' := fun p => [blk b4 114 [.slice none (([] : List Prm).length) 0, .int .i64 ip, .slice p.1 (((([] : List Syn) ++ (ts.take k).map tapS) ++ [(⟨-1 - x5.inp, 0, x5.wt, x5.dl⟩ : Syn)]).length) p.2], row none 0 116 8 (([] : List Prm).length) (([] : List Prm).flatMap ePrm), row p.1 p.2 126 4 (((([] : List Syn) ++ (ts.take k).map tapS) ++ [(⟨-1 - x5.inp, 0, x5.wt, x5.dl⟩ : Syn)]).length) (((([] : List Syn) ++ (ts.take k).map tapS) ++ [(⟨-1 - x5.inp, 0, x5.wt, x5.dl⟩ : Syn)]).flatMap eSyn), blk b9 70 [.int .i64 x5.inp, .int .i64 x5.wt, .int .i64 x5.dl], blk b1 32 [.slice none 0 0, .int .i64 0, .slice none 0 0]]) en_51 rfl (fun w hs => feed_c _ _ _ _ _ ([] : List Prm) _ (([] : List Syn) ++ (ts.take k).map tapS) x5.inp 0 x5.wt x5.dl _ w _ (by simp only [List.length_append, List.length_map, List.length_take, List.length_nil]; omega) (by omega) ((((((hs.pull (.there (.there (.there (.there .here))))).pull (.there .here)).pull (.there (.there (.there (.there .here))))).pull (.there (.there (.there (.there .here))))).pull (.there (.there (.there (.there .here))))))) ?_
              rintro ⟨a13, c14⟩
              refine Ops.to rfl ?_
              refine Cd.region ?_
              refine Ops.q (q_ar rfl rfl (a_inc (by omega))) ?_
              refine Ops.q (q_mv rfl) ?_
              refine Ops.rnd ((k + 1, a13, c14)) rfl (by dsimp only; exact (⟨by omega, by rw [← hI.2]; exact (firstE_step hx6 (tapE_0 h10 ⟨h11, h12⟩)).symm⟩)) (by dsimp only; omega) ⟨rfl, rfl, rfl, rfl, rfl, rfl, rfl, trivial⟩ (fun _ hs => by have h1 := (((((hs.pull (.there (.there (.there (.there .here))))).pull (.there (.there (.there .here)))).pull (.there (.there (.there .here)))).pull (.there (.there (.there .here)))).pull (.there (.there (.there (.there .here))))).drop; dsimp only; rw [mapT _ hx6, ← List.append_assoc]; exact h1) 
            · refine Ops.cp en_57 rfl (fun w hs => dF (in_c _ _ _ w) h12) ?_
              refine Ops.q (q_not rfl) ?_
              refine Ops.q (q_pickF rfl rfl) ?_
              refine Ops.q (q_asg rfl) ?_
              refine Ops.to rfl ?_
              refine Cd.cond_t rfl ?_
              refine Cd.seq ?_
              refine Cd.region ?_
              refine Ops.q (q_bld [.slice none 0 0, .int .i64 0, .slice none 0 0] pls_32 zc_32 rfl rfl) ?_
              refine Ops.stB [.slice none 0 0, .int .i64 0, .slice none 0 0] [.slice none 0 0, .int .i64 0, .slice none 0 0] sz_32 rfl rfl rfl (one rfl) (.there (.there (.there (.there .here)))) rfl rfl ?_
              refine Ops.q (q_asg rfl) ?_
              refine Ops.to rfl ?_
              refine Cd.rt (fn := Try.f30) [.agg [.slice none 0 0, .int .i64 0, .slice none 0 0].toArray, .int .i64 3] (by with_reducible repeat (first | exact rq_here | apply rq_then | apply rq_block)) rfl ⟨⟨_, _, rfl, fun _ hs => run_loadN isA_32 sz_32 (fun o u hu => Sat.atB (.there (.there (.there (.there .here)))) (by rw [Nat.zero_add]; exact hu) hs)⟩, rfl, trivial⟩ ?_
              intro w' hs'
              have h8 : tapE ip x5 = 3 := tapE_3 h10 (by rintro ⟨p, q⟩; first | exact absurd p h12 | exact absurd q h12)
              have h9 : firstE (tapE ip) ts = 3 := by rw [← hI.2, firstE_stop hx6 (by omega), h8]
              rw [show countP ip ts th = .error 3 by unfold countP; rw [if_pos h2, if_neg (by omega), h9, if_pos (by decide)]]
              exact ⟨rfl, hs'.none⟩
          · refine Ops.cp en_57 rfl (fun w hs => dF (in_c _ _ _ w) h11) ?_
            refine Ops.q (q_not rfl) ?_
            refine Ops.q (q_mv rfl) ?_
            refine Ops.sk ?_
            refine Ops.sk ?_
            refine Ops.sk ?_
            refine Ops.sk ?_
            refine Ops.q (q_pickT rfl rfl) ?_
            refine Ops.q (q_asg rfl) ?_
            refine Ops.to rfl ?_
            refine Cd.cond_t rfl ?_
            refine Cd.seq ?_
            refine Cd.region ?_
            refine Ops.q (q_bld [.slice none 0 0, .int .i64 0, .slice none 0 0] pls_32 zc_32 rfl rfl) ?_
            refine Ops.stB [.slice none 0 0, .int .i64 0, .slice none 0 0] [.slice none 0 0, .int .i64 0, .slice none 0 0] sz_32 rfl rfl rfl (one rfl) (.there (.there (.there (.there .here)))) rfl rfl ?_
            refine Ops.q (q_asg rfl) ?_
            refine Ops.to rfl ?_
            refine Cd.rt (fn := Try.f30) [.agg [.slice none 0 0, .int .i64 0, .slice none 0 0].toArray, .int .i64 3] (by with_reducible repeat (first | exact rq_here | apply rq_then | apply rq_block)) rfl ⟨⟨_, _, rfl, fun _ hs => run_loadN isA_32 sz_32 (fun o u hu => Sat.atB (.there (.there (.there (.there .here)))) (by rw [Nat.zero_add]; exact hu) hs)⟩, rfl, trivial⟩ ?_
            intro w' hs'
            have h8 : tapE ip x5 = 3 := tapE_3 h10 (by rintro ⟨p, q⟩; first | exact absurd p h11 | exact absurd q h11)
            have h9 : firstE (tapE ip) ts = 3 := by rw [← hI.2, firstE_stop hx6 (by omega), h8]
            rw [show countP ip ts th = .error 3 by unfold countP; rw [if_pos h2, if_neg (by omega), h9, if_pos (by decide)]]
            exact ⟨rfl, hs'.none⟩
        · refine Ops.cp en_57 rfl (fun w hs => dF (in_c _ _ _ w) h10) ?_
          refine Ops.q (q_not rfl) ?_
          refine Ops.q (q_asg rfl) ?_
          refine Ops.to rfl ?_
          refine Cd.cond_t rfl ?_
          refine Cd.seq ?_
          refine Cd.region ?_
          refine Ops.q (q_bld [.slice none 0 0, .int .i64 0, .slice none 0 0] pls_32 zc_32 rfl rfl) ?_
          refine Ops.stB [.slice none 0 0, .int .i64 0, .slice none 0 0] [.slice none 0 0, .int .i64 0, .slice none 0 0] sz_32 rfl rfl rfl (one rfl) (.there (.there (.there (.there .here)))) rfl rfl ?_
          refine Ops.q (q_asg rfl) ?_
          refine Ops.to rfl ?_
          refine Cd.rt (fn := Try.f30) [.agg [.slice none 0 0, .int .i64 0, .slice none 0 0].toArray, .int .i64 4] (by with_reducible repeat (first | exact rq_here | apply rq_then | apply rq_block)) rfl ⟨⟨_, _, rfl, fun _ hs => run_loadN isA_32 sz_32 (fun o u hu => Sat.atB (.there (.there (.there (.there .here)))) (by rw [Nat.zero_add]; exact hu) hs)⟩, rfl, trivial⟩ ?_
          intro w' hs'
          have h8 : tapE ip x5 = 4 := tapE_4 h10
          have h9 : firstE (tapE ip) ts = 4 := by rw [← hI.2, firstE_stop hx6 (by omega), h8]
          rw [show countP ip ts th = .error 4 by unfold countP; rw [if_pos h2, if_neg (by omega), h9, if_pos (by decide)]]
          exact ⟨rfl, hs'.none⟩
      · refine Ops.q (q_cmp rfl rfl (c_nlt (by omega))) ?_
        refine Ops.to rfl ?_
        refine Cd.seq ?_
        refine Cd.cond_f rfl ?_
        refine Cd.exitTo rfl ?_
        refine Cd.seq ?_
        refine Cd.seq ?_
        refine Cd.region ?_
        refine Ops.q (q_mv rfl) ?_
        by_cases h15 : wi th 1 1048576
        · refine Ops.cp en_57 rfl (fun w hs => dT (in_c _ _ _ w) h15) ?_
          refine Ops.q (q_not rfl) ?_
          refine Ops.to rfl ?_
          refine Cd.cond_f rfl ?_
          refine Cd.skipTo rfl ?_
          refine Cd.seq ?_
          refine Cd.region ?_
          refine Ops.cp en_68 rfl (fun w hs => adder_c w) ?_
          refine Ops.cl (α := Nat × Nat) (v := fun x => .func (.func 86) #[] #[.pointer (some ⟨x.1, 0, none⟩), .pointer (some ⟨x.2, 0, none⟩)]) (B := fun x => [blk x.1 116 (ePrm (adderP 0)), blk x.2 161 [.pointer (some ⟨b4, 0, none⟩)]]) en_49 rfl (fun w hs => grow_c b4 (adderP 0) w) ?_
          rintro ⟨pb16, bb17⟩
          refine Ops.q (q_mv rfl) ?_
          refine Ops.lit [.int .i64 th] el_26 zsb_3 rfl rfl ⟨by decide, by decide⟩ rfl ?_
          intro b18
          refine Ops.cv (α := Option Addr × Nat) (k := 86) (first := []) (caps := [.pointer (some ⟨pb16, 0, none⟩), .pointer (some ⟨bb17, 0, none⟩)]) (vs := [.slice (some ⟨b18, 0, none⟩) ([th].length) 1]) (v := fun _ => .tuple #[]) (A' := fun p => [blk b4 114 [.slice p.1 ((([] : List Prm) ++ [th].map (setTh (adderP 0))).length) p.2, .int .i64 ip, .slice qa ((([] : List Syn) ++ (ts.take k).map tapS).length) qc], row p.1 p.2 116 8 ((([] : List Prm) ++ [th].map (setTh (adderP 0))).length) ((([] : List Prm) ++ [th].map (setTh (adderP 0))).flatMap ePrm), row qa qc 126 4 ((([] : List Syn) ++ (ts.take k).map tapS).length) ((([] : List Syn) ++ (ts.take k).map tapS).flatMap eSyn), blk pb16 116 (ePrm (adderP 0)), blk bb17 161 [.pointer (some ⟨b4, 0, none⟩)], row (some ⟨b18, 0, none⟩) 1 3 1 ([th].length) ([th].flatMap eInt), blk b1 32 [.slice none 0 0, .int .i64 0, .slice none 0 0]]) en_86 rfl rfl (fun w hs => grown_c b4 _ _ _ _ ([] : List Prm) _ (([] : List Syn) ++ (ts.take k).map tapS) pb16 bb17 _ _ [th] _ _ w _ (by simp only [List.length_cons, List.length_nil]; omega) ((((((((hs.pull (.there (.there (.there (.there (.there (.there .here))))))).pull (.there .here)).pull (.there (.there (.there .here)))).pull (.there (.there (.there .here)))).pull (.there (.there (.there (.there (.there (.there .here))))))).pull (.there (.there (.there (.there (.there (.there .here))))))).pull (.there (.there (.there (.there (.there (.there .here))))))))) ?_
          rintro ⟨a19, c20⟩
          refine Ops.to rfl ?_
          refine Cd.seq ?_
          refine Cd.region ?_
          refine Ops.q (q_fa fo_114_0 rfl) ?_
          refine Ops.q (q_ldBN [.slice a19 ((([] : List Prm) ++ [th].map (setTh (adderP 0))).length) c20, .int .i64 ip, .slice qa ((([] : List Syn) ++ (ts.take k).map tapS).length) qc] isA_32 sz_32 rfl .here rfl) ?_
          refine Ops.stB [.slice a19 ((([] : List Prm) ++ [th].map (setTh (adderP 0))).length) c20, .int .i64 ip, .slice qa ((([] : List Syn) ++ (ts.take k).map tapS).length) qc] [.slice a19 ((([] : List Prm) ++ [th].map (setTh (adderP 0))).length) c20, .int .i64 ip, .slice qa ((([] : List Syn) ++ (ts.take k).map tapS).length) qc] sz_32 rfl rfl rfl (one rfl) (.there (.there (.there (.there (.there (.there .here)))))) rfl rfl ?_
          refine Ops.q (q_asg rfl) ?_
          refine Ops.to rfl ?_
          refine Cd.rt (fn := Try.f30) [.agg [.slice a19 ((([] : List Prm) ++ [th].map (setTh (adderP 0))).length) c20, .int .i64 ip, .slice qa ((([] : List Syn) ++ (ts.take k).map tapS).length) qc].toArray, .int .i64 0] (by with_reducible repeat (first | exact rq_here | apply rq_then | apply rq_block)) rfl ⟨⟨_, _, rfl, fun _ hs => run_loadN isA_32 sz_32 (fun o u hu => Sat.atB (.there (.there (.there (.there (.there (.there .here)))))) (by rw [Nat.zero_add]; exact hu) hs)⟩, rfl, trivial⟩ ?_
          intro w' hs'
          have h9 : firstE (tapE ip) ts = 0 := by rw [← hI.2, firstE_end (by omega)]
          have hP : countP ip ts th = .ok ⟨(([] : List Prm) ++ [th].map (setTh (adderP 0))), ip, (([] : List Syn) ++ ts.map tapS)⟩ := by unfold countP; rw [if_pos h2, if_neg (by omega), h9, if_neg (by decide), if_pos h15]; rfl
          rw [List.take_of_length_le (show ts.length ≤ k by omega)] at hs'
          rw [hP]
          exact ⟨(a19, c20), (qa, qc), by rw [List.take_of_length_le (show ts.length ≤ k by omega)]; rfl, (((((((hs'.pull (.there (.there .here))).pull (.there (.there .here))).pull (.there (.there .here))).drop.pull (.there (.there .here))).drop.pull (.there (.there .here))).drop.pull (.there (.there .here))).drop.pull (.there (.there .here))).drop⟩
        · refine Ops.cp en_57 rfl (fun w hs => dF (in_c _ _ _ w) h15) ?_
          refine Ops.q (q_not rfl) ?_
          refine Ops.to rfl ?_
          refine Cd.cond_t rfl ?_
          refine Cd.seq ?_
          refine Cd.region ?_
          refine Ops.q (q_bld [.slice none 0 0, .int .i64 0, .slice none 0 0] pls_32 zc_32 rfl rfl) ?_
          refine Ops.stB [.slice none 0 0, .int .i64 0, .slice none 0 0] [.slice none 0 0, .int .i64 0, .slice none 0 0] sz_32 rfl rfl rfl (one rfl) (.there (.there (.there .here))) rfl rfl ?_
          refine Ops.q (q_asg rfl) ?_
          refine Ops.to rfl ?_
          refine Cd.rt (fn := Try.f30) [.agg [.slice none 0 0, .int .i64 0, .slice none 0 0].toArray, .int .i64 3] (by with_reducible repeat (first | exact rq_here | apply rq_then | apply rq_block)) rfl ⟨⟨_, _, rfl, fun _ hs => run_loadN isA_32 sz_32 (fun o u hu => Sat.atB (.there (.there (.there .here))) (by rw [Nat.zero_add]; exact hu) hs)⟩, rfl, trivial⟩ ?_
          intro w' hs'
          have h9 : firstE (tapE ip) ts = 0 := by rw [← hI.2, firstE_end (by omega)]
          rw [show countP ip ts th = .error 3 by unfold countP; rw [if_pos h2, if_neg (by omega), h9, if_neg (by decide), if_neg h15]]
          exact ⟨rfl, hs'.none⟩
  · refine Ops.cp en_57 rfl (fun w hs => dF (in_c _ _ _ w) h2) ?_
    refine Ops.q (q_not rfl) ?_
    refine Ops.q (q_asg rfl) ?_
    refine Ops.to rfl ?_
    refine Cd.cond_t rfl ?_
    refine Cd.seq ?_
    refine Cd.region ?_
    refine Ops.q (q_bld [.slice none 0 0, .int .i64 0, .slice none 0 0] pls_32 zc_32 rfl rfl) ?_
    refine Ops.stB [.slice none 0 0, .int .i64 0, .slice none 0 0] [.slice none 0 0, .int .i64 0, .slice none 0 0] sz_32 rfl rfl rfl (one rfl) .here rfl rfl ?_
    refine Ops.q (q_asg rfl) ?_
    refine Ops.to rfl ?_
    refine Cd.rt (fn := Try.f30) [.agg [.slice none 0 0, .int .i64 0, .slice none 0 0].toArray, .int .i64 3] (by with_reducible repeat (first | exact rq_here | apply rq_then | apply rq_block)) rfl ⟨⟨_, _, rfl, fun _ hs => run_loadN isA_32 sz_32 (fun o u hu => Sat.atB .here (by rw [Nat.zero_add]; exact hu) hs)⟩, rfl, trivial⟩ ?_
    intro w' hs'
    rw [show countP ip ts th = .error 3 by unfold countP; rw [if_neg h2]]
    exact ⟨rfl, hs'.none⟩
end Go.Proofs.Ytilcdghliigngaa
namespace Go.Proofs.Ytilcdghliigngaa
open Go.RowKit Go.Proofs.YtilcdghliigngaaGl Go.Proofs.YtilcdghliigngaaPm
set_option linter.unusedVariables false
set_option linter.unusedSimpArgs false
theorem intS_76 : intS Try.prog 76 = some 2 := by kernel_rfl
section
variable {P : Program} {w0 : World} {n : Nat} {D : List Deferred} {L : Env} {A : List Atom}
theorem q_eqF {T tz : TypeId} {x y : Operand} (vs us : List Int) {v u : Value} (hT : intS P T = some vs.length) (hx : ev L x = some v) (hy : ev L y = some u) (hv : v = .agg (ints vs).toArray) (hu : u = .agg (ints us).toArray) (hl : us.length = vs.length) (h : vs ≠ us) : Qv P w0 n D L A (.binOp .eql T x y tz) (.bool false) := by
  have := q_eqS (P := P) (w0 := w0) (n := n) (D := D) (A := A) (tz := tz) vs us hT hx hy hv hu hl
  rwa [show (vs == us) = false by simp [h]] at this
theorem q_eqT {T tz : TypeId} {x y : Operand} (vs us : List Int) {v u : Value} (hT : intS P T = some vs.length) (hx : ev L x = some v) (hy : ev L y = some u) (hv : v = .agg (ints vs).toArray) (hu : u = .agg (ints us).toArray) (hl : us.length = vs.length) (h : vs = us) : Qv P w0 n D L A (.binOp .eql T x y tz) (.bool true) := by
  have := q_eqS (P := P) (w0 := w0) (n := n) (D := D) (A := A) (tz := tz) vs us hT hx hy hv hu hl
  rwa [show (vs == us) = true by simp [h]] at this
end
theorem RoL.take {α : Type} {w : World} {a : Option Addr} {enc : α → List Value} {xs : List α} (h : RoL w a enc xs) (k : Nat) : RoL w a enc (xs.take k) := fun j u hu => by
  refine h j u ?_
  rw [← List.take_append_drop k xs, List.flatMap_append, List.getElem?_append_left (List.getElem?_eq_some_iff.1 hu).1]
  exact hu
def mrkE (ip : Int) (pre : List Mrk) (m : Mrk) : Int := if wi m.inp 0 (ip - 1) then (if wi m.off 0 15 then (if m ∈ pre then 5 else 0) else 3) else 4
def patE (ip : Int) : List Mrk → List Mrk → Int
  | _, [] => 0
  | pre, m :: r => if mrkE ip pre m ≠ 0 then mrkE ip pre m else patE ip (pre ++ [m]) r
def mrkS (m : Mrk) : Syn := ⟨-1 - m.inp, 0, 1, 16 - m.off⟩
def patP (ip : Int) (ms : List Mrk) (miss : Int) : Except Int NetP :=
  if wi ip 1 256 then
    if 64 < ms.length then .error 9
    else if ms.length = 0 then .error 2
    else if patE ip [] ms ≠ 0 then .error (patE ip [] ms)
    else if wi miss 0 ((ms.length : Int) - 1) then .ok ⟨[gateP ((ms.length : Int) - miss)], ip, ms.map mrkS⟩ else .error 3
  else .error 3
theorem patE_step {ip : Int} {ms : List Mrk} {k : Nat} {x : Mrk} (hx : ms[k]? = some x) (h : mrkE ip (ms.take k) x = 0) : patE ip (ms.take k) (ms.drop k) = patE ip (ms.take (k + 1)) (ms.drop (k + 1)) := by
  rw [drop_get hx, patE, if_neg (by simpa using h), List.take_add_one, hx]; rfl
theorem patE_stop {ip : Int} {ms : List Mrk} {k : Nat} {x : Mrk} (hx : ms[k]? = some x) (h : mrkE ip (ms.take k) x ≠ 0) : patE ip (ms.take k) (ms.drop k) = mrkE ip (ms.take k) x := by
  rw [drop_get hx, patE, if_pos h]
theorem patE_end {ip : Int} {ms : List Mrk} {k : Nat} (h : ms.length ≤ k) : patE ip (ms.take k) (ms.drop k) = 0 := by
  rw [List.drop_eq_nil_of_le h, patE]
theorem mrkE_4 {ip : Int} {pre : List Mrk} {m : Mrk} (h : ¬ wi m.inp 0 (ip - 1)) : mrkE ip pre m = 4 := by unfold mrkE; rw [if_neg h]
theorem mrkE_3 {ip : Int} {pre : List Mrk} {m : Mrk} (h : wi m.inp 0 (ip - 1)) (h2 : ¬ wi m.off 0 15) : mrkE ip pre m = 3 := by unfold mrkE; rw [if_pos h, if_neg h2]
theorem mrkE_5 {ip : Int} {pre : List Mrk} {m : Mrk} (h : wi m.inp 0 (ip - 1)) (h2 : wi m.off 0 15) (h3 : m ∈ pre) : mrkE ip pre m = 5 := by unfold mrkE; rw [if_pos h, if_pos h2, if_pos h3]
theorem mrkE_0 {ip : Int} {pre : List Mrk} {m : Mrk} (h : wi m.inp 0 (ip - 1)) (h2 : wi m.off 0 15) (h3 : ¬ m ∈ pre) : mrkE ip pre m = 0 := by unfold mrkE; rw [if_pos h, if_pos h2, if_neg h3]
theorem notmem_step {α : Type} {xs : List α} {k : Nat} {x y : α} (hx : xs[k]? = some x) (h : ¬ y ∈ xs.take k) (hn : ¬ y = x) : ¬ y ∈ xs.take (k + 1) := by
  rw [List.take_add_one, hx]
  intro hm
  rcases List.mem_append.1 hm with hm | hm
  · exact h hm
  · exact hn (List.mem_singleton.1 hm)
theorem indexM_c (xa : Option Addr) (xc : Nat) (xs : List Mrk) (y : Mrk) (w : World) (hX : RoL w xa eMark xs) (hl : xs.length ≤ 1000000) : Calls Try.prog 93 [.slice xa xs.length xc, .agg (eMark y).toArray].toArray w fun e w' => ∃ i : Int, e = .returned (.int .i64 i) ∧ (0 ≤ i ↔ y ∈ xs) ∧ Sat w w' [] := by
  refine fstart Try.func93 rfl rfl (Sat.nil w) ?_
  refine Cd.seq ?_
  refine Cd.region ?_
  refine Ops.box [.int .i64 y.inp, .int .i64 y.off] rfl rfl ?_
  intro b1
  refine Ops.q (q_asg rfl) ?_
  refine Ops.to rfl ?_
  refine Cd.seq ?_
  refine Cd.seq ?_
  refine Cd.region ?_
  refine Ops.q (q_mv rfl) ?_
  refine Ops.q (q_len esz_73 rfl) ?_
  refine Ops.q (q_mv rfl) ?_
  refine Ops.to rfl ?_
  refine Cd.block ?_
  refine Cd.lp (σ := Nat) (fun k => k ≤ xs.length ∧ ¬ y ∈ xs.take k) (fun k => [(0, .slice xa xs.length xc), (3, .pointer (some ⟨b1, 0, none⟩)), (7, .int .i64 (xs.length : Int)), (8, .int .i64 (k : Int))]) (fun k => [blk b1 76 [.int .i64 y.inp, .int .i64 y.off]]) (fun k => xs.length - k) 0 ⟨Nat.zero_le _, by simp⟩ ⟨rfl, rfl, rfl, rfl, trivial⟩ (fun _ hs => hs) ?_
  intro k hI
  have hI1 := hI.1
  refine Cd.seq ?_
  refine Cd.region ?_
  by_cases hk : (k : Int) < (xs.length : Int)
  · refine Ops.q (q_cmp rfl rfl (c_lt hk)) ?_
    obtain ⟨x2, hx3⟩ : ∃ x, xs[k]? = some x := ⟨_, List.getElem?_eq_getElem (by omega)⟩
    obtain ⟨ab4, ao5, rfl⟩ := RoL.pos hX eMark_len hx3
    refine Ops.to rfl ?_
    refine Cd.seq ?_
    refine Cd.cond_t rfl ?_
    refine Cd.skipTo rfl ?_
    refine Cd.seq ?_
    refine Cd.block ?_
    refine Cd.seq ?_
    refine Cd.region ?_
    refine Ops.q (q_mv rfl) ?_
    refine Ops.q (q_asg rfl) ?_
    refine Ops.to rfl ?_
    refine Cd.seq ?_
    refine Cd.draw rfl (by kernel_rfl) (.cons .here .nil) ?_
    intro F6 St7 hP8 hF9 hR10
    refine Dr.q (i := 0) hP8 rfl (by kernel_rfl) (q_ldBN [.int .i64 y.inp, .int .i64 y.off] isA_76 sz_76 rfl .here rfl) ?_
    refine Dr.q (i := 1) hP8 rfl (by kernel_rfl) (q_mv rfl) ?_
    refine Dr.q (i := 2) hP8 rfl (by kernel_rfl) (q_mv rfl) ?_
    refine Dr.q (i := 3) hP8 rfl (by kernel_rfl) (q_ix (k := k) esz_73 rfl rfl (by omega)) ?_
    refine Dr.q (i := 4) hP8 rfl (by kernel_rfl) (q_ldRN [.int .i64 x2.inp, .int .i64 x2.off] isA_76 sz_76 rfl (fun j u hu => hX.at eMark_len hx3 hu)) ?_
    by_cases hc11 : y = x2
    · refine Dr.q (i := 5) hP8 rfl (by kernel_rfl) (q_eqT [y.inp, y.off] [x2.inp, x2.off] intS_76 rfl rfl rfl rfl rfl (by rw [hc11])) ?_
      refine Dr.tail 6 (by kernel_rfl) ?_
      refine Ops.sat ?_ (fun _ hs => hR10 .here hs)
      refine Ops.to rfl ?_
      refine Cd.cond_t rfl ?_
      refine Cd.seq ?_
      refine Cd.region ?_
      refine Ops.q (q_mv rfl) ?_
      refine Ops.q (q_asg rfl) ?_
      refine Ops.to rfl ?_
      refine Cd.rt (fn := Try.f93) [.int .i64 (k : Int)] (by with_reducible repeat (first | exact rq_here | apply rq_then | apply rq_block)) rfl ⟨rfl, trivial⟩ ?_
      intro w' hs'
      exact ⟨(k : Int), rfl, ⟨fun _ => hc11 ▸ List.mem_iff_getElem?.2 ⟨k, hx3⟩, fun _ => by omega⟩, hs'.none⟩
    · refine Dr.q (i := 5) hP8 rfl (by kernel_rfl) (q_eqF [y.inp, y.off] [x2.inp, x2.off] intS_76 rfl rfl rfl rfl rfl (fun e => hc11 (by cases y; cases x2; simp at e; simp [e]))) ?_
      refine Dr.tail 6 (by kernel_rfl) ?_
      refine Ops.sat ?_ (fun _ hs => hR10 .here hs)
      refine Ops.to rfl ?_
      refine Cd.cond_f rfl ?_
      refine Cd.skipTo rfl ?_
      refine Cd.region ?_
      refine Ops.q (q_ar rfl rfl (a_inc (by omega))) ?_
      refine Ops.q (q_mv rfl) ?_
      refine Ops.rnd (k + 1) rfl (⟨by omega, notmem_step hx3 hI.2 hc11⟩) (by omega) ⟨rfl, rfl, rfl, rfl, trivial⟩ (fun _ hs => hs) 
  · refine Ops.q (q_cmp rfl rfl (c_nlt (by omega))) ?_
    refine Ops.to rfl ?_
    refine Cd.seq ?_
    refine Cd.cond_f rfl ?_
    refine Cd.exitTo rfl ?_
    refine Cd.seq ?_
    refine Cd.region ?_
    refine Ops.q (q_asg rfl) ?_
    refine Ops.to rfl ?_
    refine Cd.rt (fn := Try.f93) [.int .i64 (-1)] (by with_reducible repeat (first | exact rq_here | apply rq_then | apply rq_block)) rfl ⟨rfl, trivial⟩ ?_
    intro w' hs'
    exact ⟨-1, rfl, ⟨fun h => by omega, fun h => by rw [List.take_of_length_le (by omega)] at hI; exact absurd h hI.2⟩, hs'.none⟩
theorem containsM_c (xa : Option Addr) (xc : Nat) (xs : List Mrk) (y : Mrk) (w : World) (hX : RoL w xa eMark xs) (hl : xs.length ≤ 1000000) : Calls Try.prog 70 [.slice xa xs.length xc, .agg (eMark y).toArray].toArray w fun e w' => e = .returned (.bool (decide (y ∈ xs))) ∧ Sat w w' [] := by
  refine fstart Try.func70 rfl rfl (Sat.nil w) ?_
  refine Cd.seq ?_
  refine Cd.region ?_
  refine Ops.box [.int .i64 y.inp, .int .i64 y.off] rfl rfl ?_
  intro b1
  refine Ops.q (q_asg rfl) ?_
  refine Ops.to rfl ?_
  refine Cd.seq ?_
  refine Cd.region ?_
  refine Ops.q (q_mv rfl) ?_
  refine Ops.q (q_ldBN [.int .i64 y.inp, .int .i64 y.off] isA_76 sz_76 rfl .here rfl) ?_
  refine Ops.cl (α := {i : Int // 0 ≤ i ↔ y ∈ xs}) (v := fun i => .int .i64 i.1) (B := fun _ => []) en_93 rfl (fun w hs => (indexM_c _ _ xs y w (hX.later hs.below) hl).mono fun e w' h => by obtain ⟨i, h1, h2, h3⟩ := h; exact ⟨⟨i, h2⟩, h1, h3⟩) ?_
  intro i
  by_cases h2 : 0 ≤ i.1
  · refine Ops.q (q_cmp rfl rfl (c_ge h2)) ?_
    refine Ops.q (q_asg rfl) ?_
    refine Ops.to rfl ?_
    refine Cd.rt (fn := Try.f70) [.bool true] (by with_reducible repeat (first | exact rq_here | apply rq_then | apply rq_block)) rfl ⟨rfl, trivial⟩ ?_
    intro w' hs'
    exact ⟨ebool (by rw [← i.2]; simp; try omega), hs'.none⟩
  · refine Ops.q (q_cmp rfl rfl (c_nge (by omega))) ?_
    refine Ops.q (q_asg rfl) ?_
    refine Ops.to rfl ?_
    refine Cd.rt (fn := Try.f70) [.bool false] (by with_reducible repeat (first | exact rq_here | apply rq_then | apply rq_block)) rfl ⟨rfl, trivial⟩ ?_
    intro w' hs'
    exact ⟨ebool (by rw [← i.2]; simp; try omega), hs'.none⟩
theorem containsK_c (ma : Option Addr) (mc k : Nat) (ms : List Mrk) (y : Mrk) (w : World) (hM : RoL w ma eMark ms) (hl : ms.length ≤ 1000000) (hk : k ≤ ms.length) : Calls Try.prog 70 [.slice ma k mc, .agg (eMark y).toArray].toArray w fun e w' => e = .returned (.bool (decide (y ∈ ms.take k))) ∧ Sat w w' [] := by
  have h := containsM_c ma mc (ms.take k) y w (RoL.take hM k) (by rw [List.length_take]; omega)
  rwa [List.length_take, Nat.min_eq_left hk] at h
theorem pattern_c (ip : Int) (ma : Option Addr) (mc : Nat) (ms : List Mrk) (miss : Int) (w : World) (hM : RoL w ma eMark ms) (hmc : ms.length ≤ mc) : Calls Try.prog 32 [.int .i64 ip, .slice ma ms.length mc, .int .i64 miss].toArray w (RetR (patP ip ms miss) w) := by
  refine fstart Try.func32 rfl rfl (Sat.nil w) ?_
  refine Cd.seq ?_
  refine Cd.region ?_
  refine Ops.alc [.slice none 0 0, .int .i64 0, .slice none 0 0] zc_32 ?_
  intro b1
  refine Ops.q (q_asg rfl) ?_
  refine Ops.to rfl ?_
  refine Cd.seq ?_
  refine Cd.block ?_
  refine Cd.seq ?_
  refine Cd.region ?_
  refine Ops.q (q_mv rfl) ?_
  by_cases h2 : wi ip 1 256
  · refine Ops.cp en_57 rfl (fun w hs => dT (in_c _ _ _ w) h2) ?_
    refine Ops.q (q_not rfl) ?_
    refine Ops.q (q_asg rfl) ?_
    refine Ops.to rfl ?_
    refine Cd.cond_f rfl ?_
    refine Cd.seq ?_
    refine Cd.region ?_
    have hip := h2
    unfold wi at hip
    refine Ops.q (q_mv rfl) ?_
    refine Ops.q (q_len esz_73 rfl) ?_
    by_cases h3 : 64 < (ms.length : Int)
    · refine Ops.q (q_cmp rfl rfl (c_gt h3)) ?_
      refine Ops.q (q_asg rfl) ?_
      refine Ops.to rfl ?_
      refine Cd.cond_t rfl ?_
      refine Cd.seq ?_
      refine Cd.region ?_
      refine Ops.q (q_bld [.slice none 0 0, .int .i64 0, .slice none 0 0] pls_32 zc_32 rfl rfl) ?_
      refine Ops.stB [.slice none 0 0, .int .i64 0, .slice none 0 0] [.slice none 0 0, .int .i64 0, .slice none 0 0] sz_32 rfl rfl rfl (one rfl) .here rfl rfl ?_
      refine Ops.q (q_asg rfl) ?_
      refine Ops.to rfl ?_
      refine Cd.rt (fn := Try.f32) [.agg [.slice none 0 0, .int .i64 0, .slice none 0 0].toArray, .int .i64 9] (by with_reducible repeat (first | exact rq_here | apply rq_then | apply rq_block)) rfl ⟨⟨_, _, rfl, fun _ hs => run_loadN isA_32 sz_32 (fun o u hu => Sat.atB .here (by rw [Nat.zero_add]; exact hu) hs)⟩, rfl, trivial⟩ ?_
      intro w' hs'
      rw [show patP ip ms miss = .error 9 by unfold patP; rw [if_pos h2, if_pos (by omega)]]
      exact ⟨rfl, hs'.none⟩
    · refine Ops.q (q_cmp rfl rfl (c_ngt (by omega))) ?_
      refine Ops.q (q_asg rfl) ?_
      refine Ops.to rfl ?_
      refine Cd.cond_f rfl ?_
      refine Cd.seq ?_
      refine Cd.region ?_
      refine Ops.q (q_mv rfl) ?_
      refine Ops.q (q_len esz_73 rfl) ?_
      by_cases h0 : (ms.length : Int) = 0
      · refine Ops.q (q_cmp rfl rfl (c_eq h0)) ?_
        refine Ops.q (q_asg rfl) ?_
        refine Ops.to rfl ?_
        refine Cd.cond_t rfl ?_
        refine Cd.seq ?_
        refine Cd.region ?_
        refine Ops.q (q_bld [.slice none 0 0, .int .i64 0, .slice none 0 0] pls_32 zc_32 rfl rfl) ?_
        refine Ops.stB [.slice none 0 0, .int .i64 0, .slice none 0 0] [.slice none 0 0, .int .i64 0, .slice none 0 0] sz_32 rfl rfl rfl (one rfl) .here rfl rfl ?_
        refine Ops.q (q_asg rfl) ?_
        refine Ops.to rfl ?_
        refine Cd.rt (fn := Try.f32) [.agg [.slice none 0 0, .int .i64 0, .slice none 0 0].toArray, .int .i64 2] (by with_reducible repeat (first | exact rq_here | apply rq_then | apply rq_block)) rfl ⟨⟨_, _, rfl, fun _ hs => run_loadN isA_32 sz_32 (fun o u hu => Sat.atB .here (by rw [Nat.zero_add]; exact hu) hs)⟩, rfl, trivial⟩ ?_
        intro w' hs'
        rw [show patP ip ms miss = .error 2 by unfold patP; rw [if_pos h2, if_neg (by omega), if_pos (by omega)]]
        exact ⟨rfl, hs'.none⟩
      · refine Ops.q (q_cmp rfl rfl (c_neq h0)) ?_
        refine Ops.q (q_asg rfl) ?_
        refine Ops.to rfl ?_
        refine Cd.cond_f rfl ?_
        refine Cd.skipTo rfl ?_
        refine Cd.seq ?_
        refine Cd.region ?_
        refine Ops.q (q_mv rfl) ?_
        refine Ops.q (q_bld [.slice none 0 0, .int .i64 ip, .slice none 0 0] pls_32 zc_32 rfl rfl) ?_
        refine Ops.q (q_bld [.slice none 0 0, .int .i64 ip, .slice none 0 0] pls_114 zc_114 rfl rfl) ?_
        refine Ops.alc [.slice none 0 0, .int .i64 0, .slice none 0 0] zc_114 ?_
        intro b4
        refine Ops.stB [.slice none 0 0, .int .i64 ip, .slice none 0 0] [.slice none 0 0, .int .i64 ip, .slice none 0 0] sz_114 rfl rfl rfl (one rfl) .here rfl rfl ?_
        refine Ops.to rfl ?_
        refine Cd.seq ?_
        refine Cd.seq ?_
        refine Cd.nilRow 126 4 ?_
        refine Cd.nilRow 116 8 ?_
        change Cd _ _ _ _ _ _ _ _ ([row none 0 116 8 (([] : List Prm).length) (([] : List Prm).flatMap ePrm), row none 0 126 4 (([] : List Syn).length) (([] : List Syn).flatMap eSyn), blk b4 114 [.slice none (([] : List Prm).length) 0, .int .i64 ip, .slice none (([] : List Syn).length) 0], blk b1 32 [.slice none 0 0, .int .i64 0, .slice none 0 0]])
        refine Cd.region ?_
        refine Ops.q (q_mv rfl) ?_
        refine Ops.q (q_len esz_73 rfl) ?_
        refine Ops.q (q_mv rfl) ?_
        refine Ops.to rfl ?_
        refine Cd.block ?_
        refine Cd.lp (σ := Nat × Option Addr × Nat) (fun s => s.1 ≤ ms.length ∧ patE ip (ms.take s.1) (ms.drop s.1) = patE ip [] ms) (fun s => [(0, .int .i64 ip), (1, .slice ma ms.length mc), (2, .int .i64 miss), (6, .pointer (some ⟨b1, 0, none⟩)), (8, .pointer (some ⟨b4, 0, none⟩)), (29, .slice ma ms.length mc), (30, .int .i64 (ms.length : Int)), (31, .int .i64 (s.1 : Int))]) (fun s => [blk b4 114 [.slice none (([] : List Prm).length) 0, .int .i64 ip, .slice s.2.1 ((([] : List Syn) ++ (ms.take s.1).map mrkS).length) s.2.2], row none 0 116 8 (([] : List Prm).length) (([] : List Prm).flatMap ePrm), row s.2.1 s.2.2 126 4 ((([] : List Syn) ++ (ms.take s.1).map mrkS).length) ((([] : List Syn) ++ (ms.take s.1).map mrkS).flatMap eSyn), blk b1 32 [.slice none 0 0, .int .i64 0, .slice none 0 0]]) (fun s => ms.length - s.1) (0, none, 0) ⟨Nat.zero_le _, rfl⟩ ⟨rfl, rfl, rfl, rfl, rfl, rfl, rfl, rfl, trivial⟩ (fun _ hs => by have h1 := ((((hs.pull (.there (.there (.there .here)))).pull (.there (.there .here))).pull (.there (.there .here))).pull (.there (.there (.there .here)))); exact h1) ?_
        rintro ⟨k, qa, qc⟩ hI
        dsimp only at hI
        change Cd _ _ _ _ _ _ _ [(0, .int .i64 ip), (1, .slice ma ms.length mc), (2, .int .i64 miss), (6, .pointer (some ⟨b1, 0, none⟩)), (8, .pointer (some ⟨b4, 0, none⟩)), (29, .slice ma ms.length mc), (30, .int .i64 (ms.length : Int)), (31, .int .i64 (k : Int))] ([blk b4 114 [.slice none (([] : List Prm).length) 0, .int .i64 ip, .slice qa ((([] : List Syn) ++ (ms.take k).map mrkS).length) qc], row none 0 116 8 (([] : List Prm).length) (([] : List Prm).flatMap ePrm), row qa qc 126 4 ((([] : List Syn) ++ (ms.take k).map mrkS).length) ((([] : List Syn) ++ (ms.take k).map mrkS).flatMap eSyn), blk b1 32 [.slice none 0 0, .int .i64 0, .slice none 0 0]])
        have hI1 := hI.1
        refine Cd.seq ?_
        refine Cd.region ?_
        by_cases hk : (k : Int) < (ms.length : Int)
        · refine Ops.q (q_cmp rfl rfl (c_lt hk)) ?_
          obtain ⟨x5, hx6⟩ : ∃ x, ms[k]? = some x := ⟨_, List.getElem?_eq_getElem (by omega)⟩
          obtain ⟨ab7, ao8, rfl⟩ := RoL.pos hM eMark_len hx6
          refine Ops.to rfl ?_
          refine Cd.seq ?_
          refine Cd.cond_t rfl ?_
          refine Cd.skipTo rfl ?_
          refine Cd.seq ?_
          refine Cd.block ?_
          refine Cd.seq ?_
          refine Cd.region ?_
          refine Ops.q (q_mv rfl) ?_
          refine Ops.q (q_ix (k := k) esz_73 rfl rfl (by omega)) ?_
          refine Ops.q (q_ldRN [.int .i64 x5.inp, .int .i64 x5.off] isA_76 sz_76 rfl (fun j u hu => hM.at eMark_len hx6 hu)) ?_
          refine Ops.alc [.int .i64 0, .int .i64 0] zc_76 ?_
          intro b9
          refine Ops.q (q_asg rfl) ?_
          refine Ops.stB [.int .i64 x5.inp, .int .i64 x5.off] [.int .i64 x5.inp, .int .i64 x5.off] sz_76 rfl rfl rfl (one rfl) .here rfl rfl ?_
          refine Ops.to rfl ?_
          refine Cd.seq ?_
          refine Cd.block ?_
          refine Cd.seq ?_
          refine Cd.region ?_
          refine Ops.q (q_fa fo_76_0 rfl) ?_
          refine Ops.q (q_ldB isA_3 rfl .here rfl) ?_
          refine Ops.q (q_mv rfl) ?_
          refine Ops.q (q_ar (v := ip - 1) rfl rfl (a_sub (by omega))) ?_
          by_cases h10 : wi x5.inp 0 (ip - 1)
          · refine Ops.cp en_57 rfl (fun w hs => dT (in_c _ _ _ w) h10) ?_
            refine Ops.q (q_not rfl) ?_
            refine Ops.q (q_asg rfl) ?_
            refine Ops.to rfl ?_
            refine Cd.cond_f rfl ?_
            refine Cd.seq ?_
            refine Cd.region ?_
            refine Ops.q (q_fa fo_76_1 rfl) ?_
            refine Ops.q (q_ldB isA_3 rfl .here rfl) ?_
            by_cases h11 : wi x5.off 0 15
            · refine Ops.cp en_57 rfl (fun w hs => dT (in_c _ _ _ w) h11) ?_
              refine Ops.q (q_not rfl) ?_
              refine Ops.q (q_asg rfl) ?_
              refine Ops.to rfl ?_
              refine Cd.cond_f rfl ?_
              refine Cd.seq ?_
              refine Cd.draw rfl (by kernel_rfl) (.cons .here .nil) ?_
              intro F12 St13 hP14 hF15 hR16
              refine Dr.q (i := 0) hP14 rfl (by kernel_rfl) (q_mv rfl) ?_
              refine Dr.q (i := 1) hP14 rfl (by kernel_rfl) (q_mv rfl) ?_
              refine Dr.q (i := 2) hP14 rfl (by kernel_rfl) (q_cutHP (k := k) el_73 sz_76 rfl rfl (by omega)) ?_
              refine Dr.q (i := 3) hP14 rfl (by kernel_rfl) (q_ldBN [.int .i64 x5.inp, .int .i64 x5.off] isA_76 sz_76 rfl .here rfl) ?_
              refine Dr.e (i := 4) rfl (by kernel_rfl) ?_
              by_cases h17 : x5 ∈ ms.take k
              · refine Ops.cp en_70 rfl (fun w hs => dT (containsK_c _ _ k ms x5 w (hM.later hs.below) (by omega) (by omega)) h17) ?_
                refine Dr.back (fun _ hs => hF15 .here hs) ?_
                refine Dr.q (i := 5) hP14 rfl (by kernel_rfl) (q_asg rfl) ?_
                refine Dr.tail 6 (by kernel_rfl) ?_
                refine Ops.sat ?_ (fun _ hs => hR16 .here hs)
                refine Ops.to rfl ?_
                refine Cd.cond_t rfl ?_
                refine Cd.seq ?_
                refine Cd.region ?_
                refine Ops.q (q_bld [.slice none 0 0, .int .i64 0, .slice none 0 0] pls_32 zc_32 rfl rfl) ?_
                refine Ops.stB [.slice none 0 0, .int .i64 0, .slice none 0 0] [.slice none 0 0, .int .i64 0, .slice none 0 0] sz_32 rfl rfl rfl (one rfl) (.there (.there (.there (.there .here)))) rfl rfl ?_
                refine Ops.q (q_asg rfl) ?_
                refine Ops.to rfl ?_
                refine Cd.rt (fn := Try.f32) [.agg [.slice none 0 0, .int .i64 0, .slice none 0 0].toArray, .int .i64 5] (by with_reducible repeat (first | exact rq_here | apply rq_then | apply rq_block)) rfl ⟨⟨_, _, rfl, fun _ hs => run_loadN isA_32 sz_32 (fun o u hu => Sat.atB (.there (.there (.there (.there .here)))) (by rw [Nat.zero_add]; exact hu) hs)⟩, rfl, trivial⟩ ?_
                intro w' hs'
                have h8 : mrkE ip (ms.take k) x5 = 5 := mrkE_5 h10 h11 h17
                have h9 : patE ip [] ms = 5 := by rw [← hI.2, patE_stop hx6 (by omega), h8]
                rw [show patP ip ms miss = .error 5 by unfold patP; rw [if_pos h2, if_neg (by omega), if_neg (by omega), h9, if_pos (by decide)]]
                exact ⟨rfl, hs'.none⟩
              · refine Ops.cp en_70 rfl (fun w hs => dF (containsK_c _ _ k ms x5 w (hM.later hs.below) (by omega) (by omega)) h17) ?_
                refine Dr.back (fun _ hs => hF15 .here hs) ?_
                refine Dr.q (i := 5) hP14 rfl (by kernel_rfl) (q_asg rfl) ?_
                refine Dr.tail 6 (by kernel_rfl) ?_
                refine Ops.sat ?_ (fun _ hs => hR16 .here hs)
                refine Ops.to rfl ?_
                refine Cd.cond_f rfl ?_
                refine Cd.skipTo rfl ?_
                refine Cd.region ?_
                have hti := h10
                have hto := h11
                unfold wi at hti hto
                refine Ops.q (q_fa fo_76_0 rfl) ?_
                refine Ops.q (q_ldB isA_3 rfl .here rfl) ?_
                refine Ops.q (q_fa fo_76_1 rfl) ?_
                refine Ops.q (q_ldB isA_3 rfl .here rfl) ?_
                refine Ops.q (q_ar (v := 16 - x5.off) rfl rfl (a_sub (by omega))) ?_
                refine Ops.cm (α := Option Addr × Nat) (v := fun _ => .tuple #[]) (A' := fun p => [blk b4 114 [.slice none (([] : List Prm).length) 0, .int .i64 ip, .slice p.1 (((([] : List Syn) ++ (ms.take k).map mrkS) ++ [(⟨-1 - x5.inp, 0, 1, 16 - x5.off⟩ : Syn)]).length) p.2], row none 0 116 8 (([] : List Prm).length) (([] : List Prm).flatMap ePrm), row p.1 p.2 126 4 (((([] : List Syn) ++ (ms.take k).map mrkS) ++ [(⟨-1 - x5.inp, 0, 1, 16 - x5.off⟩ : Syn)]).length) (((([] : List Syn) ++ (ms.take k).map mrkS) ++ [(⟨-1 - x5.inp, 0, 1, 16 - x5.off⟩ : Syn)]).flatMap eSyn), blk b9 76 [.int .i64 x5.inp, .int .i64 x5.off], blk b1 32 [.slice none 0 0, .int .i64 0, .slice none 0 0]]) en_51 rfl (fun w hs => feed_c _ _ _ _ _ ([] : List Prm) _ (([] : List Syn) ++ (ms.take k).map mrkS) x5.inp 0 1 (16 - x5.off) _ w _ (by simp only [List.length_append, List.length_map, List.length_take, List.length_nil]; omega) (by omega) ((((((hs.pull (.there (.there (.there (.there .here))))).pull (.there .here)).pull (.there (.there (.there (.there .here))))).pull (.there (.there (.there (.there .here))))).pull (.there (.there (.there (.there .here))))))) ?_
                rintro ⟨a18, c19⟩
                refine Ops.to rfl ?_
                refine Cd.region ?_
                refine Ops.q (q_ar rfl rfl (a_inc (by omega))) ?_
                refine Ops.q (q_mv rfl) ?_
                refine Ops.rnd ((k + 1, a18, c19)) rfl (by dsimp only; exact (⟨by omega, by rw [← hI.2]; exact (patE_step hx6 (mrkE_0 h10 h11 h17)).symm⟩)) (by dsimp only; omega) ⟨rfl, rfl, rfl, rfl, rfl, rfl, rfl, rfl, trivial⟩ (fun _ hs => by have h1 := (((((hs.pull (.there (.there (.there (.there .here))))).pull (.there (.there (.there .here)))).pull (.there (.there (.there .here)))).pull (.there (.there (.there .here)))).pull (.there (.there (.there (.there .here))))).drop; dsimp only; rw [mapT _ hx6, ← List.append_assoc]; exact h1) 
            · refine Ops.cp en_57 rfl (fun w hs => dF (in_c _ _ _ w) h11) ?_
              refine Ops.q (q_not rfl) ?_
              refine Ops.q (q_asg rfl) ?_
              refine Ops.to rfl ?_
              refine Cd.cond_t rfl ?_
              refine Cd.seq ?_
              refine Cd.region ?_
              refine Ops.q (q_bld [.slice none 0 0, .int .i64 0, .slice none 0 0] pls_32 zc_32 rfl rfl) ?_
              refine Ops.stB [.slice none 0 0, .int .i64 0, .slice none 0 0] [.slice none 0 0, .int .i64 0, .slice none 0 0] sz_32 rfl rfl rfl (one rfl) (.there (.there (.there (.there .here)))) rfl rfl ?_
              refine Ops.q (q_asg rfl) ?_
              refine Ops.to rfl ?_
              refine Cd.rt (fn := Try.f32) [.agg [.slice none 0 0, .int .i64 0, .slice none 0 0].toArray, .int .i64 3] (by with_reducible repeat (first | exact rq_here | apply rq_then | apply rq_block)) rfl ⟨⟨_, _, rfl, fun _ hs => run_loadN isA_32 sz_32 (fun o u hu => Sat.atB (.there (.there (.there (.there .here)))) (by rw [Nat.zero_add]; exact hu) hs)⟩, rfl, trivial⟩ ?_
              intro w' hs'
              have h8 : mrkE ip (ms.take k) x5 = 3 := mrkE_3 h10 h11
              have h9 : patE ip [] ms = 3 := by rw [← hI.2, patE_stop hx6 (by omega), h8]
              rw [show patP ip ms miss = .error 3 by unfold patP; rw [if_pos h2, if_neg (by omega), if_neg (by omega), h9, if_pos (by decide)]]
              exact ⟨rfl, hs'.none⟩
          · refine Ops.cp en_57 rfl (fun w hs => dF (in_c _ _ _ w) h10) ?_
            refine Ops.q (q_not rfl) ?_
            refine Ops.q (q_asg rfl) ?_
            refine Ops.to rfl ?_
            refine Cd.cond_t rfl ?_
            refine Cd.seq ?_
            refine Cd.region ?_
            refine Ops.q (q_bld [.slice none 0 0, .int .i64 0, .slice none 0 0] pls_32 zc_32 rfl rfl) ?_
            refine Ops.stB [.slice none 0 0, .int .i64 0, .slice none 0 0] [.slice none 0 0, .int .i64 0, .slice none 0 0] sz_32 rfl rfl rfl (one rfl) (.there (.there (.there (.there .here)))) rfl rfl ?_
            refine Ops.q (q_asg rfl) ?_
            refine Ops.to rfl ?_
            refine Cd.rt (fn := Try.f32) [.agg [.slice none 0 0, .int .i64 0, .slice none 0 0].toArray, .int .i64 4] (by with_reducible repeat (first | exact rq_here | apply rq_then | apply rq_block)) rfl ⟨⟨_, _, rfl, fun _ hs => run_loadN isA_32 sz_32 (fun o u hu => Sat.atB (.there (.there (.there (.there .here)))) (by rw [Nat.zero_add]; exact hu) hs)⟩, rfl, trivial⟩ ?_
            intro w' hs'
            have h8 : mrkE ip (ms.take k) x5 = 4 := mrkE_4 h10
            have h9 : patE ip [] ms = 4 := by rw [← hI.2, patE_stop hx6 (by omega), h8]
            rw [show patP ip ms miss = .error 4 by unfold patP; rw [if_pos h2, if_neg (by omega), if_neg (by omega), h9, if_pos (by decide)]]
            exact ⟨rfl, hs'.none⟩
        · refine Ops.q (q_cmp rfl rfl (c_nlt (by omega))) ?_
          refine Ops.to rfl ?_
          refine Cd.seq ?_
          refine Cd.cond_f rfl ?_
          refine Cd.exitTo rfl ?_
          refine Cd.seq ?_
          refine Cd.seq ?_
          refine Cd.region ?_
          refine Ops.q (q_mv rfl) ?_
          refine Ops.q (q_mv rfl) ?_
          refine Ops.q (q_len esz_73 rfl) ?_
          refine Ops.q (q_ar (v := (ms.length : Int) - 1) rfl rfl (a_sub (by omega))) ?_
          by_cases h20 : wi miss 0 ((ms.length : Int) - 1)
          · refine Ops.cp en_57 rfl (fun w hs => dT (in_c _ _ _ w) h20) ?_
            refine Ops.q (q_not rfl) ?_
            refine Ops.to rfl ?_
            refine Cd.cond_f rfl ?_
            refine Cd.skipTo rfl ?_
            refine Cd.seq ?_
            refine Cd.region ?_
            have hmi := h20
            unfold wi at hmi
            refine Ops.cp en_48 rfl (fun w hs => gate_c w) ?_
            refine Ops.cl (α := Nat × Nat) (v := fun x => .func (.func 86) #[] #[.pointer (some ⟨x.1, 0, none⟩), .pointer (some ⟨x.2, 0, none⟩)]) (B := fun x => [blk x.1 116 (ePrm (gateP 0)), blk x.2 161 [.pointer (some ⟨b4, 0, none⟩)]]) en_49 rfl (fun w hs => grow_c b4 (gateP 0) w) ?_
            rintro ⟨pb21, bb22⟩
            refine Ops.q (q_mv rfl) ?_
            refine Ops.q (q_len esz_73 rfl) ?_
            refine Ops.q (q_mv rfl) ?_
            refine Ops.q (q_ar (v := (ms.length : Int) - miss) rfl rfl (a_sub (by omega))) ?_
            refine Ops.lit [.int .i64 ((ms.length : Int) - miss)] el_26 zsb_3 rfl rfl ⟨by decide, by decide⟩ rfl ?_
            intro b23
            refine Ops.cv (α := Option Addr × Nat) (k := 86) (first := []) (caps := [.pointer (some ⟨pb21, 0, none⟩), .pointer (some ⟨bb22, 0, none⟩)]) (vs := [.slice (some ⟨b23, 0, none⟩) ([((ms.length : Int) - miss)].length) 1]) (v := fun _ => .tuple #[]) (A' := fun p => [blk b4 114 [.slice p.1 ((([] : List Prm) ++ [((ms.length : Int) - miss)].map (setTh (gateP 0))).length) p.2, .int .i64 ip, .slice qa ((([] : List Syn) ++ (ms.take k).map mrkS).length) qc], row p.1 p.2 116 8 ((([] : List Prm) ++ [((ms.length : Int) - miss)].map (setTh (gateP 0))).length) ((([] : List Prm) ++ [((ms.length : Int) - miss)].map (setTh (gateP 0))).flatMap ePrm), row qa qc 126 4 ((([] : List Syn) ++ (ms.take k).map mrkS).length) ((([] : List Syn) ++ (ms.take k).map mrkS).flatMap eSyn), blk pb21 116 (ePrm (gateP 0)), blk bb22 161 [.pointer (some ⟨b4, 0, none⟩)], row (some ⟨b23, 0, none⟩) 1 3 1 ([((ms.length : Int) - miss)].length) ([((ms.length : Int) - miss)].flatMap eInt), blk b1 32 [.slice none 0 0, .int .i64 0, .slice none 0 0]]) en_86 rfl rfl (fun w hs => grown_c b4 _ _ _ _ ([] : List Prm) _ (([] : List Syn) ++ (ms.take k).map mrkS) pb21 bb22 _ _ [((ms.length : Int) - miss)] _ _ w _ (by simp only [List.length_cons, List.length_nil]; omega) ((((((((hs.pull (.there (.there (.there (.there (.there (.there .here))))))).pull (.there .here)).pull (.there (.there (.there .here)))).pull (.there (.there (.there .here)))).pull (.there (.there (.there (.there (.there (.there .here))))))).pull (.there (.there (.there (.there (.there (.there .here))))))).pull (.there (.there (.there (.there (.there (.there .here))))))))) ?_
            rintro ⟨a24, c25⟩
            refine Ops.to rfl ?_
            refine Cd.seq ?_
            refine Cd.region ?_
            refine Ops.q (q_fa fo_114_0 rfl) ?_
            refine Ops.q (q_ldBN [.slice a24 ((([] : List Prm) ++ [((ms.length : Int) - miss)].map (setTh (gateP 0))).length) c25, .int .i64 ip, .slice qa ((([] : List Syn) ++ (ms.take k).map mrkS).length) qc] isA_32 sz_32 rfl .here rfl) ?_
            refine Ops.stB [.slice a24 ((([] : List Prm) ++ [((ms.length : Int) - miss)].map (setTh (gateP 0))).length) c25, .int .i64 ip, .slice qa ((([] : List Syn) ++ (ms.take k).map mrkS).length) qc] [.slice a24 ((([] : List Prm) ++ [((ms.length : Int) - miss)].map (setTh (gateP 0))).length) c25, .int .i64 ip, .slice qa ((([] : List Syn) ++ (ms.take k).map mrkS).length) qc] sz_32 rfl rfl rfl (one rfl) (.there (.there (.there (.there (.there (.there .here)))))) rfl rfl ?_
            refine Ops.q (q_asg rfl) ?_
            refine Ops.to rfl ?_
            refine Cd.rt (fn := Try.f32) [.agg [.slice a24 ((([] : List Prm) ++ [((ms.length : Int) - miss)].map (setTh (gateP 0))).length) c25, .int .i64 ip, .slice qa ((([] : List Syn) ++ (ms.take k).map mrkS).length) qc].toArray, .int .i64 0] (by with_reducible repeat (first | exact rq_here | apply rq_then | apply rq_block)) rfl ⟨⟨_, _, rfl, fun _ hs => run_loadN isA_32 sz_32 (fun o u hu => Sat.atB (.there (.there (.there (.there (.there (.there .here)))))) (by rw [Nat.zero_add]; exact hu) hs)⟩, rfl, trivial⟩ ?_
            intro w' hs'
            have h9 : patE ip [] ms = 0 := by rw [← hI.2, patE_end (by omega)]
            have hP : patP ip ms miss = .ok ⟨(([] : List Prm) ++ [((ms.length : Int) - miss)].map (setTh (gateP 0))), ip, (([] : List Syn) ++ ms.map mrkS)⟩ := by unfold patP; rw [if_pos h2, if_neg (by omega), if_neg (by omega), h9, if_neg (by decide), if_pos h20]; rfl
            rw [List.take_of_length_le (show ms.length ≤ k by omega)] at hs'
            rw [hP]
            exact ⟨(a24, c25), (qa, qc), by rw [List.take_of_length_le (show ms.length ≤ k by omega)]; rfl, (((((((hs'.pull (.there (.there .here))).pull (.there (.there .here))).pull (.there (.there .here))).drop.pull (.there (.there .here))).drop.pull (.there (.there .here))).drop.pull (.there (.there .here))).drop.pull (.there (.there .here))).drop⟩
          · refine Ops.cp en_57 rfl (fun w hs => dF (in_c _ _ _ w) h20) ?_
            refine Ops.q (q_not rfl) ?_
            refine Ops.to rfl ?_
            refine Cd.cond_t rfl ?_
            refine Cd.seq ?_
            refine Cd.region ?_
            refine Ops.q (q_bld [.slice none 0 0, .int .i64 0, .slice none 0 0] pls_32 zc_32 rfl rfl) ?_
            refine Ops.stB [.slice none 0 0, .int .i64 0, .slice none 0 0] [.slice none 0 0, .int .i64 0, .slice none 0 0] sz_32 rfl rfl rfl (one rfl) (.there (.there (.there .here))) rfl rfl ?_
            refine Ops.q (q_asg rfl) ?_
            refine Ops.to rfl ?_
            refine Cd.rt (fn := Try.f32) [.agg [.slice none 0 0, .int .i64 0, .slice none 0 0].toArray, .int .i64 3] (by with_reducible repeat (first | exact rq_here | apply rq_then | apply rq_block)) rfl ⟨⟨_, _, rfl, fun _ hs => run_loadN isA_32 sz_32 (fun o u hu => Sat.atB (.there (.there (.there .here))) (by rw [Nat.zero_add]; exact hu) hs)⟩, rfl, trivial⟩ ?_
            intro w' hs'
            have h9 : patE ip [] ms = 0 := by rw [← hI.2, patE_end (by omega)]
            rw [show patP ip ms miss = .error 3 by unfold patP; rw [if_pos h2, if_neg (by omega), if_neg (by omega), h9, if_neg (by decide), if_neg h20]]
            exact ⟨rfl, hs'.none⟩
  · refine Ops.cp en_57 rfl (fun w hs => dF (in_c _ _ _ w) h2) ?_
    refine Ops.q (q_not rfl) ?_
    refine Ops.q (q_asg rfl) ?_
    refine Ops.to rfl ?_
    refine Cd.cond_t rfl ?_
    refine Cd.seq ?_
    refine Cd.region ?_
    refine Ops.q (q_bld [.slice none 0 0, .int .i64 0, .slice none 0 0] pls_32 zc_32 rfl rfl) ?_
    refine Ops.stB [.slice none 0 0, .int .i64 0, .slice none 0 0] [.slice none 0 0, .int .i64 0, .slice none 0 0] sz_32 rfl rfl rfl (one rfl) .here rfl rfl ?_
    refine Ops.q (q_asg rfl) ?_
    refine Ops.to rfl ?_
    refine Cd.rt (fn := Try.f32) [.agg [.slice none 0 0, .int .i64 0, .slice none 0 0].toArray, .int .i64 3] (by with_reducible repeat (first | exact rq_here | apply rq_then | apply rq_block)) rfl ⟨⟨_, _, rfl, fun _ hs => run_loadN isA_32 sz_32 (fun o u hu => Sat.atB .here (by rw [Nat.zero_add]; exact hu) hs)⟩, rfl, trivial⟩ ?_
    intro w' hs'
    rw [show patP ip ms miss = .error 3 by unfold patP; rw [if_neg h2]]
    exact ⟨rfl, hs'.none⟩
end Go.Proofs.Ytilcdghliigngaa
namespace Go.Proofs.YtilcdghliigngaaGl
set_option linter.unusedVariables false
set_option linter.unusedSimpArgs false
open Go.RowKit
section
variable {P : Program} {r : Option Nat} {ops : Array Oper} {Q : Exit → Act → World → Prop} {w0 : World} {n : Nat} {D : List Deferred} {rest : List Oper} {L : Env} {A : List Atom}
variable {t : Nat} {ty : TypeId} {pos : String} {af : Array Edge} {g : Option (Nat × Bool)}
theorem sat_ext {w : World} {b cap sz m k : Nat} {E : TypeId} {cs : List Value} (h : Sat w0 w (row (some ⟨b, 0, none⟩) cap E sz m cs :: A)) (hk : m + k ≤ cap) :
    ∃ xs : List Value, xs.length = k * sz ∧ Sat w0 w (row (some ⟨b, 0, none⟩) cap E sz (m + k) (cs ++ xs) :: A) := by
  obtain ⟨S, hS, _, hgo⟩ := h.step
  obtain ⟨⟨hlen, hown⟩, hSb⟩ := hS
  rcases hown with ⟨h0, _⟩ | ⟨b', cap', cur, hv0, _, hh, h2, h3, h4, h5⟩
  · cases h0
  · cases hv0
    have hsz : (m + k) * sz ≤ cur.size := by rw [h4]; exact Nat.mul_le_mul_right _ hk
    refine ⟨(cur.toList.drop (m * sz)).take (k * sz), ?_, ?_⟩
    · rw [List.length_take, List.length_drop, Array.length_toList]
      rw [Nat.add_mul] at hsz; omega
    · refine hgo (S' := fun q => (Value.slice (some ⟨b, 0, none⟩) (m + k) cap).ownBlock = some q) ⟨⟨?_, .inr ⟨b, cap, cur, rfl, Nat.zero_le _, hh, hk, h3, h4, ?_⟩⟩, fun _ => Iff.rfl⟩ (fun q hq => .inl ((hSb q).2 (by simpa [Value.ownBlock] using hq))) rfl rfl rfl (Nat.le_refl _) (fun _ _ _ => rfl)
      · rw [List.length_append, hlen, List.length_take, List.length_drop, Array.length_toList]
        rw [Nat.add_mul] at hsz ⊢; omega
      · rw [← h5, Nat.add_mul, List.take_add]
theorem Ops.ext {b cap sz m k : Nat} {E : TypeId} {cs : List Value} {R : List Atom} (hp : Pull A (row (some ⟨b, 0, none⟩) cap E sz m cs) R) (hk : m + k ≤ cap)
    (h : ∀ xs, xs.length = k * sz → Ops P r ops Q w0 n D rest L (row (some ⟨b, 0, none⟩) cap E sz (m + k) (cs ++ xs) :: R)) : Ops P r ops Q w0 n D rest L A := fun ac w hkn hs => by
  obtain ⟨xs, hl, hs'⟩ := sat_ext (hs.pull hp) hk
  exact h xs hl ac w hkn hs'
theorem Ops.appzG {x y : Operand} {T N E : TypeId} {kn : IntKind} {zs olds : List Value} {sz by_ m k cap : Nat} {a : Option Addr} (hT : elT P T = some E) (hN : iK P N = some kn) (hE : zsb P E = some (zs, sz, by_)) (hs0 : 0 < sz) (hx : ev L x = some (.slice a m cap)) (hy : ev L y = some (.int .i64 (k : Int)))
    (hk : 0 < k) (hc : cap < m + k) (ho : ∀ w, Sat w0 w A → Ro w a olds) (hol : olds.length = m * sz) (hb : (m + k) * by_ ≤ 140737488355328) (hb' : m + k ≤ 70368744177664)
    (h : ∀ b cap', m + k ≤ cap' → Ops P r ops Q w0 n D rest ((t, .slice (some ⟨b, 0, none⟩) (m + k) cap') :: L) (row (some ⟨b, 0, none⟩) cap' E sz (m + k) (olds ++ rep k zs) :: A))
    (hg : gd ops L ⟨some t, .call ⟨.builtin .append, #[x, y], #[T, N]⟩, ty, pos, af, g⟩ = some true := by rfl) (ht : Nat.blt t n = true := by rfl) :
    Ops P r ops Q w0 n D (⟨some t, .call ⟨.builtin .append, #[x, y], #[T, N]⟩, ty, pos, af, g⟩ :: rest) L A :=
  Ops.val (α := {p : Nat × Nat // m + k ≤ p.2}) (v := fun p => .slice (some ⟨p.1.1, 0, none⟩) (m + k) p.1.2) (A' := fun p => row (some ⟨p.1.1, 0, none⟩) p.1.2 E sz (m + k) (olds ++ rep k zs) :: A) hg rfl ht rfl (fun ac w hkn hs => by
    obtain ⟨i, z, hi, hz, hsz, hby, hzs, hzl⟩ := zsb_u hE
    have hro := ho w.drew hs.drew
    have hf := run_first (P := P) (w := w.drew) (sl := m) (sc := cap) hro hol
    have hkb : k * by_ ≤ 281474976710656 := Nat.le_trans (Nat.mul_le_mul_right by_ (show k ≤ m + k by omega)) (by omega)
    have hr := Lib.run_append_grow_zeros (P := P) w T N ty E i z .i64 kn (elT_u hT) (iK_u hN) hi hz a m cap olds (by rw [hsz]; exact hf) k hk (by rw [hsz]; exact hs0) hc (by omega) (by rw [hby]; exact hkb)
      (by rw [hby]; exact growslice_fits hc hb)
    have hge : m + k ≤ grownCap w (m + k) cap E := grownCap_ge _ _ _ _
    refine ⟨⟨(w.heap.size, grownCap w (m + k) cap E), hge⟩, w.drew.alloc (.cells (olds.toArray ++ Builtin.zeroCells z.cells k ++ Builtin.zeroCells z.cells (grownCap w (m + k) cap E - (m + k))) E), by simp only [execOp, resolve, invoke, builtin, hkn.ev hx, hkn.ev hy, List.map_toArray, List.map_cons, List.map_nil, Sem.run_bind, Sem.run_pure, Result.andThen_ok, hr], ?_⟩
    have hzc : ∀ q, (Builtin.zeroCells z.cells q).toList = rep q zs := fun q => by rw [← hzl, ← rep_eq]; rfl
    have hzn : ∀ q, (Builtin.zeroCells z.cells q).size = q * sz := fun q => by rw [← Array.length_toList, hzc, rep_length, ← hzl, Array.length_toList, hzs]
    refine hs.drew.add (Below.alloc (Below.refl _ _) (Nat.le_refl _) _) (S := fun q => q = w.heap.size) ⟨⟨?_, .inr ⟨w.heap.size, _, _, rfl, Nat.zero_le _, heap_alloc_new _ _, hge, grownCap_le_maxLen _ _ _ _ (by simp only [maxLen]; omega), ?_, ?_⟩⟩, fun q => by simp [Value.ownBlock, eq_comm]⟩ (fun q hq => by subst hq; exact Nat.le_refl _)
    · rw [List.length_append, hol, rep_length, ← hzl, Array.length_toList, hzs, Nat.add_mul]
    · simp only [Array.size_append, List.size_toArray, hzn, hol]
      rw [← Nat.add_mul, ← Nat.add_mul]; congr 1; omega
    · have e : (olds ++ rep k zs).length = (m + k) * sz := by rw [List.length_append, hol, rep_length, ← hzl, Array.length_toList, hzs, Nat.add_mul]
      simp only [Array.toList_append, List.toList_toArray, hzc]
      rw [← e, List.take_left]) (fun p => h p.1.1 p.1.2 p.2)
theorem Ops.appzQ {x y : Operand} {T N E : TypeId} {kn : IntKind} {zs olds : List Value} {sz by_ m k q cap : Nat} {a : Option Addr} (hT : elT P T = some E) (hN : iK P N = some kn) (hE : zsb P E = some (zs, sz, by_)) (hs0 : 0 < sz) (hx : ev L x = some (.slice a m cap)) (hy : ev L y = some (.int .i64 (k : Int)))
    (hk : 0 < k) (hc : cap < m + k) (hq : m + k = q) (ho : ∀ w, Sat w0 w A → Ro w a olds) (hol : olds.length = m * sz) (hb : (m + k) * by_ ≤ 140737488355328) (hb' : m + k ≤ 70368744177664)
    (h : ∀ b cap', q ≤ cap' → Ops P r ops Q w0 n D rest ((t, .slice (some ⟨b, 0, none⟩) q cap') :: L) (row (some ⟨b, 0, none⟩) cap' E sz q (olds ++ rep k zs) :: A))
    (hg : gd ops L ⟨some t, .call ⟨.builtin .append, #[x, y], #[T, N]⟩, ty, pos, af, g⟩ = some true := by rfl) (ht : Nat.blt t n = true := by rfl) :
    Ops P r ops Q w0 n D (⟨some t, .call ⟨.builtin .append, #[x, y], #[T, N]⟩, ty, pos, af, g⟩ :: rest) L A := by
  subst hq
  exact Ops.appzG hT hN hE hs0 hx hy hk hc ho hol hb hb' h hg ht
theorem Ops.xt {k : FuncId} {xs : List Operand} {ats : Array TypeId} {vs : List Value} {v : Value} (hx : evs L xs = some vs)
    (hc : ∀ w, Sat w0 w A → (callFunc k vs.toArray).run P w = .ok (.value v) w)
    (h : Ops P r ops Q w0 n D rest ((t, v) :: L) A)
    (hg : gd ops L ⟨some t, .call ⟨.value (.func k), xs.toArray, ats⟩, ty, pos, af, g⟩ = some true := by rfl) (ht : Nat.blt t n = true := by rfl) :
    Ops P r ops Q w0 n D (⟨some t, .call ⟨.value (.func k), xs.toArray, ats⟩, ty, pos, af, g⟩ :: rest) L A :=
  Ops.same hg rfl ht rfl (fun a w hk hs => by
    have e : xs.toArray.map a.eval = vs.toArray := by rw [List.map_toArray, evs_ok hk hx]
    have e2 : a.eval (.func k) = .func (.func k) #[] #[] := rfl
    simp only [execOp, resolve, e, e2, Deferred.ofValue, Sem.run_bind, Sem.run_pure, Result.andThen_ok, invoke]
    simpa using hc w hs) h
theorem sat_shape {w : World} {b cap sz m : Nat} {E : TypeId} {cs : List Value} {R : List Atom} (h : Sat w0 w A) (hp : Pull A (row (some ⟨b, 0, none⟩) cap E sz m cs) R) : w.shape? b = some (E, cap * sz) ∧ ∀ o, w.frozen? ⟨b, o, none⟩ = false := by
  obtain ⟨hlen, hown⟩ := h.own hp
  rcases hown with ⟨h0, _⟩ | ⟨b', cap', cur, hv0, _, hh, h2, h3, h4, h5⟩
  · cases h0
  · cases hv0
    refine ⟨by simp [World.shape?, hh, h4], fun o => by simp [World.frozen?, hh]⟩
theorem sat_apart {w : World} {b b' cap cap' sz sz' m m' : Nat} {E E' : TypeId} {cs cs' : List Value} {R R' : List Atom} (h : Sat w0 w A) (hp : Pull A (row (some ⟨b, 0, none⟩) cap E sz m cs) R) (hq : Pull R (row (some ⟨b', 0, none⟩) cap' E' sz' m' cs') R') : b ≠ b' := by
  obtain ⟨_, T, ⟨S, U, ha, hA, hd, _⟩, _⟩ := h.pull hp
  obtain ⟨S', U', hb, _, _, ht'⟩ := Sats.pull hq hA
  rintro rfl
  exact hd b ((ha.2 b).2 rfl) ((ht' b).2 (.inl ((hb.2 b).2 rfl)))
theorem q_cutA {T : TypeId} {x y : Operand} {m z b o k : Nat} {kd : IntKind} (hz : asz P T = some (m, z)) (hx : ev L x = some (.pointer (some ⟨b, o, none⟩))) (hy : ev L y = some (.int kd (k : Int))) (hk : k ≤ m) :
    Qv P w0 n D L A (.slice T x none (some y) none) (.slice (some ⟨b, o, none⟩) k m) := fun ac w hk' _ _ _ _ _ _ => ⟨by
    unfold asz at hz
    cases hu : P.underlying T with
    | none => rw [hu] at hz; cases hz
    | some d =>
      rw [hu] at hz
      cases d <;> try (cases hz; done)
      rename_i n' e
      obtain ⟨i', hi, he⟩ := Option.map_eq_some_iff.1 hz
      simp only [Prod.mk.injEq] at he
      obtain ⟨rfl, rfl⟩ := he
      have h1 : (0 ≤ (k : Int) ∧ (k : Int) ≤ (n' : Int)) := by omega
      simp [execOp, hk'.ev hx, hk'.ev hy, Instr.sliceAt, run_underlying hu, Instr.sureAddr, Instr.sliceBounds, Instr.sliceBound, asIntOf, h1, hk, sizeOf, typeInfo, hi, add_at], rfl⟩
theorem sat_rowle {w : World} {b cap sz m : Nat} {E : TypeId} {cs : List Value} {R : List Atom} (h : Sat w0 w A) (hp : Pull A (row (some ⟨b, 0, none⟩) cap E sz m cs) R) : m ≤ cap := by
  obtain ⟨hlen, hown⟩ := h.own hp
  rcases hown with ⟨h0, _⟩ | ⟨b', cap', cur, hv0, _, hh, h2, h3, h4, h5⟩
  · cases h0
  · cases hv0; exact h2
theorem Ops.rowle {b cap sz m : Nat} {E : TypeId} {cs : List Value} {R : List Atom} (hp : Pull A (row (some ⟨b, 0, none⟩) cap E sz m cs) R)
    (h : m ≤ cap → Ops P r ops Q w0 n D rest L A) : Ops P r ops Q w0 n D rest L A := fun ac w hkn hs => h (sat_rowle hs hp) ac w hkn hs
end
end Go.Proofs.YtilcdghliigngaaGl
