/- Part 5 of the proof of RuleSays: a small language for the program's functions, its soundness, and what the functions do. No conditions beyond the theorems' own. -/
import Derived.Test.YthhepmakjimhlaaDoorCw4
import Derived.Below
import Derived.Carry
import Derived.Deep.Slices
import Derived.LaidLaws
import Derived.Lib.ItoaNum
import Derived.Lib.LaidTab
import Derived.Lib.Repeat
import Derived.Lib.SplitLaws
import Derived.OpenShut
import Derived.ProofKit
import Derived.Shelf.LaysM
import Derived.Shelf.Strconv.AtoiAll
import Derived.Shelf.Strconv.Itoa3
import Derived.Shelf.Strings.Cut
import Derived.Shelf.Strings.Prefix
import Derived.Shelf.Strings.Repeat
import Derived.Shelf.Strings.Split
import Derived.ShutString
import Derived.WalkKit
import GoSem.ClaimJoined
set_option linter.unusedSimpArgs false
set_option linter.unusedVariables false
namespace Go.Cw
open Go
def r167 : Rl := ⟨[101, 120, 105, 116], 0, 1, 2, -1, 5⟩
theorem good_167 : ruleF r167 = 0 := by decide
theorem text_167 : ruleText r167 = [101, 120, 105, 116, 58, 32, 97, 110, 121, 32, 49, 32, 116, 104, 101, 110, 32, 50, 32, 119, 105, 116, 104, 105, 110, 32, 53] := by
  have d1 : dec 1 = [49] := by rw [dec_lt (by omega)]; decide
  have d2 : dec 2 = [50] := by rw [dec_lt (by omega)]; decide
  have d5 : dec 5 = [53] := by rw [dec_lt (by omega)]; decide
  rw [ruleText_eq]
  have e : r167.name ++ [58, 32] ++ kn r167.kind ++ [32] ++ dec r167.first.toNat ++ [32, 116, 104, 101, 110, 32] ++ dec r167.thn.toNat ++ (if 0 ≤ r167.wout then [32, 119, 105, 116, 104, 111, 117, 116, 32] ++ dec r167.wout.toNat else []) ++ ([32, 119, 105, 116, 104, 105, 110, 32] ++ dec r167.wthn.toNat) = [101, 120, 105, 116] ++ [58, 32] ++ [97, 110, 121] ++ [32] ++ dec 1 ++ [32, 116, 104, 101, 110, 32] ++ dec 2 ++ [] ++ ([32, 119, 105, 116, 104, 105, 110, 32] ++ dec 5) := rfl
  rw [e, d1, d2, d5]; rfl
def S167 (T : Heap) : Spec := fun args h K => args = [] ∧ Heap.le T h ∧ ∀ h', Heap.le h h' → K (.bool true) h'
theorem F167_ok {N : Num} {Γ : Ctx} [GoodC Γ] {T : Heap} (H169 : Sat (S169 T N) (Γ 169)) (H19 : Sat (S19 N) (Γ 19)) : Sat (S167 T) (SF N Γ F167) := by
  rintro _ h K ⟨rfl, hT, hK⟩
  refine i_fun rfl ?_
  simp only [F167, env0, List.map, List.length, List.replicate, List.cons_append, List.nil_append, Nat.reduceSub, Nat.reduceAdd]
  try simp (disch := first | omega | (simp only [PL]; omega)) only [PS, P1, P2, P3, P4, P5, P6, P7, P8, PA, PB, PC, Nat.reduceAdd, Nat.reduceSub, Nat.reduceMul, Nat.reduceLeDiff, Nat.reduceEqDiff, Nat.succ_ne_self, reduceCtorEq, Int.reduceToNat, Int.cast_ofNat_Int, Int.reduceEq, Int.reduceNe, Int.reduceLT, Int.reduceLE]
  refine i_call H169 ⟨r167, rfl, by decide, hT, fun hb => absurd good_167 hb, fun _ h1 hle1 => ?_⟩
  rw [text_167]
  try simp (disch := first | omega | (simp only [PL]; omega)) only [PS, P1, P2, P3, P4, P5, P6, P7, P8, PA, PB, PC, Nat.reduceAdd, Nat.reduceSub, Nat.reduceMul, Nat.reduceLeDiff, Nat.reduceEqDiff, Nat.succ_ne_self, reduceCtorEq, Int.reduceToNat, Int.cast_ofNat_Int, Int.reduceEq, Int.reduceNe, Int.reduceLT, Int.reduceLE]
  refine i_call H19 ⟨0, 0, rfl, ?_⟩
  rw [decide_eq_true rfl]
  try simp (disch := first | omega | (simp only [PL]; omega)) only [PS, P1, P2, P3, P4, P5, P6, P7, P8, PA, PB, PC, Nat.reduceAdd, Nat.reduceSub, Nat.reduceMul, Nat.reduceLeDiff, Nat.reduceEqDiff, Nat.succ_ne_self, reduceCtorEq, Int.reduceToNat, Int.cast_ofNat_Int, Int.reduceEq, Int.reduceNe, Int.reduceLT, Int.reduceLE]
  exact hK h1 hle1
def S159 (T : Heap) : Spec := fun args h K => ∃ r s w n v L, args = [aggR r, .string (str s), .int .i64 w, .int .i64 n, v] ∧ r.name.length ≤ 9223372036854775807 ∧ SS h v L ∧ Heap.le T h ∧ ∀ h', Heap.le h h' → K (.bool true) h'
theorem F159_ok {N : Num} {Γ : Ctx} [GoodC Γ] {T : Heap} (H167 : Sat (S167 T) (Γ 167)) (H12 : Sat S12t (Γ 12)) (H168 : Sat S168 (Γ 168)) (H169 : Sat (S169 T N) (Γ 169)) (H170 : Sat (S170 N) (Γ 170)) (H19 : Sat (S19 N) (Γ 19)) (H171 : Sat S171 (Γ 171)) (H172 : Sat (S172 T N) (Γ 172)) (H173 : Sat S173 (Γ 173)) (H13 : Sat (S13 N) (Γ 13)) (H14 : Sat S14 (Γ 14)) (H174 : Sat (S174 N) (Γ 174)) (H175 : Sat S175 (Γ 175)) : Sat (S159 T) (SF N Γ F159) := by
  rintro _ h K ⟨r, s, w, n, v, L, rfl, hnm, hL, hT, hK⟩
  refine i_fun rfl ?_
  simp only [F159, env0, List.map, List.length, List.replicate, List.cons_append, List.nil_append, Nat.reduceSub, Nat.reduceAdd, aggR]
  iterate 5 rw [sw_assoc]
  refine i_seqM (fun env H => Heap.le h H ∧ light2 L ∧ s.length ≤ 200 ∧ r.name.length ≤ 100 ∧ env = [none, some (.string (str s)), some (.int .i64 w), some (.int .i64 n), some (v), some (.agg #[.string (str r.name), .int .i64 r.kind, .int .i64 r.first, .int .i64 r.thn, .int .i64 r.wout, .int .i64 r.wthn]), none, none, none, none, none, none, none, none, none, none, none, none, none, none, none, none, none, none, none, none, none, none, none, none, none, none, none, none, none, none, none, none, none, none, none, none, none, none, none, none, none, none, none, none, none, none, none, none, none, none, none, none, none, none, none, none, none, none]) ?_ ?_
  rotate_left
  · try simp (disch := first | omega | (simp only [PL]; omega)) only [PS, P1, P2, P3, P4, P5, P6, P7, P8, PA, PB, PC, Nat.reduceAdd, Nat.reduceSub, Nat.reduceMul, Nat.reduceLeDiff, Nat.reduceEqDiff, Nat.succ_ne_self, reduceCtorEq, Int.reduceToNat, Int.cast_ofNat_Int, Int.reduceEq, Int.reduceNe, Int.reduceLT, Int.reduceLE]
    refine i_call H167 ⟨rfl, hT, fun h1 hle1 => ?_⟩
    try simp (disch := first | omega | (simp only [PL]; omega)) only [PS, P1, P2, P3, P4, P5, P6, P7, P8, PA, PB, PC, Nat.reduceAdd, Nat.reduceSub, Nat.reduceMul, Nat.reduceLeDiff, Nat.reduceEqDiff, Nat.succ_ne_self, reduceCtorEq, Int.reduceToNat, Int.cast_ofNat_Int, Int.reduceEq, Int.reduceNe, Int.reduceLT, Int.reduceLE]
    refine i_call H12 ⟨v, L, rfl, hL.le hle1, fun bb hbb => ?_⟩
    cases bb with
    | false =>
      try simp (disch := first | omega | (simp only [PL]; omega)) only [PS, P1, P2, P3, P4, P5, P6, P7, P8, PA, PB, PC, Nat.reduceAdd, Nat.reduceSub, Nat.reduceMul, Nat.reduceLeDiff, Nat.reduceEqDiff, Nat.succ_ne_self, reduceCtorEq, Int.reduceToNat, Int.cast_ofNat_Int, Int.reduceEq, Int.reduceNe, Int.reduceLT, Int.reduceLE]
      exact hK h1 hle1
    | true =>
    have hli := hbb rfl
    try simp (disch := first | omega | (simp only [PL]; omega)) only [PS, P1, P2, P3, P4, P5, P6, P7, P8, PA, PB, PC, Nat.reduceAdd, Nat.reduceSub, Nat.reduceMul, Nat.reduceLeDiff, Nat.reduceEqDiff, Nat.succ_ne_self, reduceCtorEq, Int.reduceToNat, Int.cast_ofNat_Int, Int.reduceEq, Int.reduceNe, Int.reduceLT, Int.reduceLE]
    refine i_cond (fun c1 => ?_) (fun c1 => ?_)
    · try simp (disch := first | omega | (simp only [PL]; omega)) only [PS, P1, P2, P3, P4, P5, P6, P7, P8, PA, PB, PC, Nat.reduceAdd, Nat.reduceSub, Nat.reduceMul, Nat.reduceLeDiff, Nat.reduceEqDiff, Nat.succ_ne_self, reduceCtorEq, Int.reduceToNat, Int.cast_ofNat_Int, Int.reduceEq, Int.reduceNe, Int.reduceLT, Int.reduceLE]
      exact hK h1 hle1
    have hsl : s.length ≤ 200 := by omega
    have hnl : r.name.length ≤ 100 := by omega
    try simp (disch := first | omega | (simp only [PL]; omega)) only [PS, P1, P2, P3, P4, P5, P6, P7, P8, PA, PB, PC, Nat.reduceAdd, Nat.reduceSub, Nat.reduceMul, Nat.reduceLeDiff, Nat.reduceEqDiff, Nat.succ_ne_self, reduceCtorEq, Int.reduceToNat, Int.cast_ofNat_Int, Int.reduceEq, Int.reduceNe, Int.reduceLT, Int.reduceLE]
    refine i_call H168 ⟨r, rfl, by omega, ?_⟩
    try simp (disch := first | omega | (simp only [PL]; omega)) only [PS, P1, P2, P3, P4, P5, P6, P7, P8, PA, PB, PC, Nat.reduceAdd, Nat.reduceSub, Nat.reduceMul, Nat.reduceLeDiff, Nat.reduceEqDiff, Nat.succ_ne_self, reduceCtorEq, Int.reduceToNat, Int.cast_ofNat_Int, Int.reduceEq, Int.reduceNe, Int.reduceLT, Int.reduceLE]
    by_cases hb : ruleF r = 0
    rotate_left
    · refine i_call H169 ⟨r, rfl, by omega, hT.trans hle1, fun _ h2 hle2 => ?_, fun h => absurd h hb⟩
      try simp (disch := first | omega | (simp only [PL]; omega)) only [PS, P1, P2, P3, P4, P5, P6, P7, P8, PA, PB, PC, Nat.reduceAdd, Nat.reduceSub, Nat.reduceMul, Nat.reduceLeDiff, Nat.reduceEqDiff, Nat.succ_ne_self, reduceCtorEq, Int.reduceToNat, Int.cast_ofNat_Int, Int.reduceEq, Int.reduceNe, Int.reduceLT, Int.reduceLE]
      refine i_call H170 ⟨r, rfl, by omega, ?_⟩
      try simp (disch := first | omega | (simp only [PL]; omega)) only [PS, P1, P2, P3, P4, P5, P6, P7, P8, PA, PB, PC, Nat.reduceAdd, Nat.reduceSub, Nat.reduceMul, Nat.reduceLeDiff, Nat.reduceEqDiff, Nat.succ_ne_self, reduceCtorEq, Int.reduceToNat, Int.cast_ofNat_Int, Int.reduceEq, Int.reduceNe, Int.reduceLT, Int.reduceLE]
      refine i_call H19 ⟨ruleF r, ruleF r, rfl, ?_⟩
      rw [decide_eq_true rfl]
      try simp (disch := first | omega | (simp only [PL]; omega)) only [PS, P1, P2, P3, P4, P5, P6, P7, P8, PA, PB, PC, Nat.reduceAdd, Nat.reduceSub, Nat.reduceMul, Nat.reduceLeDiff, Nat.reduceEqDiff, Nat.succ_ne_self, reduceCtorEq, Int.reduceToNat, Int.cast_ofNat_Int, Int.reduceEq, Int.reduceNe, Int.reduceLT, Int.reduceLE]
      refine i_call H19 ⟨ruleF r, ruleF r, rfl, ?_⟩
      rw [decide_eq_true rfl]
      obtain ⟨f, hf⟩ := Nat.exists_eq_succ_of_ne_zero hb
      rw [hf]
      have hpos : ((0 : Int) < ((f + 1 : Nat) : Int)) = True := by rw [eq_iff_iff]; exact ⟨fun _ => trivial, fun _ => by omega⟩
      have hz : (((f + 1 : Nat) : Int) = 0) = False := by rw [eq_iff_iff]; exact ⟨fun h => by omega, fun h => h.elim⟩
      have hnn : (([] : List UInt8) ≠ []) = False := by simp
      try simp (disch := first | omega | (simp only [PL]; omega)) only [PS, P1, P2, P3, P4, P5, P6, P7, P8, PA, PB, PC, Nat.reduceAdd, Nat.reduceSub, Nat.reduceMul, Nat.reduceLeDiff, Nat.reduceEqDiff, Nat.succ_ne_self, reduceCtorEq, Int.reduceToNat, Int.cast_ofNat_Int, Int.reduceEq, Int.reduceNe, Int.reduceLT, Int.reduceLE, hpos, hz, hnn]
      exact k_meet _ (by try simp only [Pe, and_true, true_and, and_self]) ⟨hle1.trans hle2, hli, hsl, hnl, rfl⟩
    · refine i_call H169 ⟨r, rfl, by omega, hT.trans hle1, fun h => absurd hb h, fun _ h2 hle2 => ?_⟩
      try simp (disch := first | omega | (simp only [PL]; omega)) only [PS, P1, P2, P3, P4, P5, P6, P7, P8, PA, PB, PC, Nat.reduceAdd, Nat.reduceSub, Nat.reduceMul, Nat.reduceLeDiff, Nat.reduceEqDiff, Nat.succ_ne_self, reduceCtorEq, Int.reduceToNat, Int.cast_ofNat_Int, Int.reduceEq, Int.reduceNe, Int.reduceLT, Int.reduceLE]
      refine i_call H170 ⟨r, rfl, by omega, ?_⟩
      rw [hb]
      try simp (disch := first | omega | (simp only [PL]; omega)) only [PS, P1, P2, P3, P4, P5, P6, P7, P8, PA, PB, PC, Nat.reduceAdd, Nat.reduceSub, Nat.reduceMul, Nat.reduceLeDiff, Nat.reduceEqDiff, Nat.succ_ne_self, reduceCtorEq, Int.reduceToNat, Int.cast_ofNat_Int, Int.reduceEq, Int.reduceNe, Int.reduceLT, Int.reduceLE]
      refine i_call H19 ⟨0, 0, rfl, ?_⟩
      rw [decide_eq_true rfl]
      try simp (disch := first | omega | (simp only [PL]; omega)) only [PS, P1, P2, P3, P4, P5, P6, P7, P8, PA, PB, PC, Nat.reduceAdd, Nat.reduceSub, Nat.reduceMul, Nat.reduceLeDiff, Nat.reduceEqDiff, Nat.succ_ne_self, reduceCtorEq, Int.reduceToNat, Int.cast_ofNat_Int, Int.reduceEq, Int.reduceNe, Int.reduceLT, Int.reduceLE]
      refine i_call H19 ⟨0, 0, rfl, ?_⟩
      rw [decide_eq_true rfl]
      try simp (disch := first | omega | (simp only [PL]; omega)) only [PS, P1, P2, P3, P4, P5, P6, P7, P8, PA, PB, PC, Nat.reduceAdd, Nat.reduceSub, Nat.reduceMul, Nat.reduceLeDiff, Nat.reduceEqDiff, Nat.succ_ne_self, reduceCtorEq, Int.reduceToNat, Int.cast_ofNat_Int, Int.reduceEq, Int.reduceNe, Int.reduceLT, Int.reduceLE]
      refine i_call H171 ⟨r, rfl, hb, fun h3 hle3 => ?_⟩
      try simp (disch := first | omega | (simp only [PL]; omega)) only [PS, P1, P2, P3, P4, P5, P6, P7, P8, PA, PB, PC, Nat.reduceAdd, Nat.reduceSub, Nat.reduceMul, Nat.reduceLeDiff, Nat.reduceEqDiff, Nat.succ_ne_self, reduceCtorEq, Int.reduceToNat, Int.cast_ofNat_Int, Int.reduceEq, Int.reduceNe, Int.reduceLT, Int.reduceLE]
      exact k_meet _ (by try simp only [Pe, and_true, true_and, and_self]) ⟨hle1.trans (hle2.trans hle3), hli, hsl, hnl, rfl⟩
  rintro env H ⟨hle, hli, hsl, hnl, rfl⟩
  iterate 2 rw [sw_assoc]
  refine i_seqM (fun env H => Heap.le h H ∧ env = [none, none, some (.int .i64 w), some (.int .i64 n), some (v), some (.agg #[.string (str r.name), .int .i64 r.kind, .int .i64 r.first, .int .i64 r.thn, .int .i64 r.wout, .int .i64 r.wthn]), none, none, none, none, none, none, none, none, none, none, none, none, none, none, none, none, none, none, none, none, none, none, none, none, none, none, none, none, none, none, none, none, none, none, none, none, none, none, none, none, none, none, none, none, none, none, none, none, none, none, none, none, none, none, none, none, none, none]) ?_ ?_
  rotate_left
  · try simp (disch := first | omega | (simp only [PL]; omega)) only [PS, P1, P2, P3, P4, P5, P6, P7, P8, PA, PB, PC, Nat.reduceAdd, Nat.reduceSub, Nat.reduceMul, Nat.reduceLeDiff, Nat.reduceEqDiff, Nat.succ_ne_self, reduceCtorEq, Int.reduceToNat, Int.cast_ofNat_Int, Int.reduceEq, Int.reduceNe, Int.reduceLT, Int.reduceLE]
    refine i_call H172 ⟨s, rfl, by omega, hT.trans hle, fun u hub hut h1 hle1 => ?_, fun hno h1 hle1 => ?_⟩
    · have sm := fun h bb => aggR_same h u bb
      simp only [aggR] at sm ⊢
      try simp (disch := first | omega | (simp only [PL]; omega)) only [PS, P1, P2, P3, P4, P5, P6, P7, P8, PA, PB, PC, Nat.reduceAdd, Nat.reduceSub, Nat.reduceMul, Nat.reduceLeDiff, Nat.reduceEqDiff, Nat.succ_ne_self, reduceCtorEq, Int.reduceToNat, Int.cast_ofNat_Int, Int.reduceEq, Int.reduceNe, Int.reduceLT, Int.reduceLE]
      refine i_call H173 ⟨s, rfl, by omega, fun u' hub' hut' h2 hle2 => ?_, fun hno h2 hle2 => absurd hut (hno u hub)⟩
      obtain rfl : u' = u := ruleText_inj hub' hub (hut'.trans hut.symm)
      simp only [aggR]
      try simp (disch := first | omega | (simp only [PL]; omega)) only [PS, P1, P2, P3, P4, P5, P6, P7, P8, PA, PB, PC, Nat.reduceAdd, Nat.reduceSub, Nat.reduceMul, Nat.reduceLeDiff, Nat.reduceEqDiff, Nat.succ_ne_self, reduceCtorEq, Int.reduceToNat, Int.cast_ofNat_Int, Int.reduceEq, Int.reduceNe, Int.reduceLT, Int.reduceLE, sm]
      refine i_call H19 ⟨0, 0, rfl, ?_⟩
      rw [decide_eq_true rfl]
      try simp (disch := first | omega | (simp only [PL]; omega)) only [PS, P1, P2, P3, P4, P5, P6, P7, P8, PA, PB, PC, Nat.reduceAdd, Nat.reduceSub, Nat.reduceMul, Nat.reduceLeDiff, Nat.reduceEqDiff, Nat.succ_ne_self, reduceCtorEq, Int.reduceToNat, Int.cast_ofNat_Int, Int.reduceEq, Int.reduceNe, Int.reduceLT, Int.reduceLE]
      exact k_meet _ (by try simp only [Pe, and_true, true_and, and_self]) ⟨hle.trans (hle1.trans hle2), rfl⟩
    · have sm := fun h bb => aggR_same h ⟨[], 0, 0, 0, 0, 0⟩ bb
      simp only [aggR] at sm ⊢
      try simp (disch := first | omega | (simp only [PL]; omega)) only [PS, P1, P2, P3, P4, P5, P6, P7, P8, PA, PB, PC, Nat.reduceAdd, Nat.reduceSub, Nat.reduceMul, Nat.reduceLeDiff, Nat.reduceEqDiff, Nat.succ_ne_self, reduceCtorEq, Int.reduceToNat, Int.cast_ofNat_Int, Int.reduceEq, Int.reduceNe, Int.reduceLT, Int.reduceLE]
      refine i_call H173 ⟨s, rfl, by omega, fun u' hub' hut' h2 hle2 => absurd hut' (hno u' hub'), fun _ h2 hle2 => ?_⟩
      simp only [aggR]
      try simp (disch := first | omega | (simp only [PL]; omega)) only [PS, P1, P2, P3, P4, P5, P6, P7, P8, PA, PB, PC, Nat.reduceAdd, Nat.reduceSub, Nat.reduceMul, Nat.reduceLeDiff, Nat.reduceEqDiff, Nat.succ_ne_self, reduceCtorEq, Int.reduceToNat, Int.cast_ofNat_Int, Int.reduceEq, Int.reduceNe, Int.reduceLT, Int.reduceLE, sm]
      refine i_call H19 ⟨4, 0, rfl, ?_⟩
      rw [decide_eq_false (by decide)]
      try simp (disch := first | omega | (simp only [PL]; omega)) only [PS, P1, P2, P3, P4, P5, P6, P7, P8, PA, PB, PC, Nat.reduceAdd, Nat.reduceSub, Nat.reduceMul, Nat.reduceLeDiff, Nat.reduceEqDiff, Nat.succ_ne_self, reduceCtorEq, Int.reduceToNat, Int.cast_ofNat_Int, Int.reduceEq, Int.reduceNe, Int.reduceLT, Int.reduceLE]
      refine i_call H19 ⟨4, 4, rfl, ?_⟩
      rw [decide_eq_true rfl]
      try simp (disch := first | omega | (simp only [PL]; omega)) only [PS, P1, P2, P3, P4, P5, P6, P7, P8, PA, PB, PC, Nat.reduceAdd, Nat.reduceSub, Nat.reduceMul, Nat.reduceLeDiff, Nat.reduceEqDiff, Nat.succ_ne_self, reduceCtorEq, Int.reduceToNat, Int.cast_ofNat_Int, Int.reduceEq, Int.reduceNe, Int.reduceLT, Int.reduceLE]
      exact k_meet _ (by try simp only [Pe, and_true, true_and, and_self]) ⟨hle.trans (hle1.trans hle2), rfl⟩
  clear hle
  rintro env h1 ⟨hle1, rfl⟩
  try simp (disch := first | omega | (simp only [PL]; omega)) only [PS, P1, P2, P3, P4, P5, P6, P7, P8, PA, PB, PC, Nat.reduceAdd, Nat.reduceSub, Nat.reduceMul, Nat.reduceLeDiff, Nat.reduceEqDiff, Nat.succ_ne_self, reduceCtorEq, Int.reduceToNat, Int.cast_ofNat_Int, Int.reduceEq, Int.reduceNe, Int.reduceLT, Int.reduceLE]
  refine i_call H13 ⟨w, n, v, L, rfl, hL.le hle1, hli, fun hb h2 hle2 => ?_, fun hb bt bm H gt gm F hk hT' hM => ?_⟩
  · try simp (disch := first | omega | (simp only [PL]; omega)) only [PS, P1, P2, P3, P4, P5, P6, P7, P8, PA, PB, PC, Nat.reduceAdd, Nat.reduceSub, Nat.reduceMul, Nat.reduceLeDiff, Nat.reduceEqDiff, Nat.succ_ne_self, reduceCtorEq, Int.reduceToNat, Int.cast_ofNat_Int, Int.reduceEq, Int.reduceNe, Int.reduceLT, Int.reduceLE]
    exact hK h2 (hle1.trans hle2)
  simp only [newBad] at hb
  have hR := hM.read hk.lm
  have hgE : ∀ l ∈ goodE L, isGood l ∧ l ∈ L := by
    intro l hl
    unfold goodE at hl
    obtain ⟨k1, k2⟩ := List.mem_filter.1 hl
    exact ⟨of_decide_eq_true k2, k1⟩
  have hEl : (goodE L).length ≤ 25 := by
    have := List.length_filter_le (fun l => decide (∀ s ∈ l, ¬ s.bad)) L
    have := hli.1.1
    unfold goodE; omega
  have hfl := flatT_len (goodE L) fun l hl => by have := hli.1.2 l (hgE l hl).2; omega
  have htl2 : (tagsE (goodE L)).length ≤ 500000 := by have := tagsOfL_len (flatT (goodE L)); unfold tagsE; omega
  have htag : ∀ t ∈ tagsE (goodE L), t.length ≤ 20 := by
    intro t ht
    obtain ⟨l, hl, s, hs, rfl⟩ := (mem_tagsE _ t).1 ht
    exact hli.2 l (hgE l hl).2 s hs
  have hokE : MOkE w.toNat n.toNat (goodE L) := ⟨by omega, by omega, by omega, fun l hl => (hgE l hl).1⟩
  obtain ⟨evm, fvm, hom, ⟨vsm, hvm, hvml, _⟩, _⟩ := id hR
  have Am : H.cell ((⟨bm, 0, none⟩ : Addr).add 2) = some evm := hom.rules.1 2 (by simp)
  have Rm := hvm.rules1 id (fun _ => rfl) undef
  rw [hvml] at Rm
  try simp (disch := first | omega | (simp only [PL]; omega)) only [PS, P1, P2, P3, P4, P5, P6, P7, P8, PA, PB, PC, Nat.reduceAdd, Nat.reduceSub, Nat.reduceMul, Nat.reduceLeDiff, Nat.reduceEqDiff, Nat.succ_ne_self, reduceCtorEq, Int.reduceToNat, Int.cast_ofNat_Int, Int.reduceEq, Int.reduceNe, Int.reduceLT, Int.reduceLE, Am, Rm]
  refine i_call H14 ⟨⟨bm, 0, none⟩, _, _, goodE L, (goodE L).length, rfl, hR, fun v14 H2 ho14 => ?_⟩
  rw [List.take_of_length_le (by omega)] at ho14
  try simp (disch := first | omega | (simp only [PL]; omega)) only [PS, P1, P2, P3, P4, P5, P6, P7, P8, PA, PB, PC, Nat.reduceAdd, Nat.reduceSub, Nat.reduceMul, Nat.reduceLeDiff, Nat.reduceEqDiff, Nat.succ_ne_self, reduceCtorEq, Int.reduceToNat, Int.cast_ofNat_Int, Int.reduceEq, Int.reduceNe, Int.reduceLT, Int.reduceLE]
  refine i_bslB encT 1 (fun _ => rfl) [[120]] rfl rfl (by simp [maxLen]) fun x1 b1 H3 hle3 hb1 hx1 hS1 => ?_
  have O2 := hS1.one
  try simp (disch := first | omega | (simp only [PL]; omega)) only [PS, P1, P2, P3, P4, P5, P6, P7, P8, PA, PB, PC, Nat.reduceAdd, Nat.reduceSub, Nat.reduceMul, Nat.reduceLeDiff, Nat.reduceEqDiff, Nat.succ_ne_self, reduceCtorEq, Int.reduceToNat, Int.cast_ofNat_Int, Int.reduceEq, Int.reduceNe, Int.reduceLT, Int.reduceLE]
  refine i_app1 (enc := encT) (fun _ => rfl) (l' := [[120]]) (by simp [encT, one]) (ho14.le hle3) (SlB.sl (enc := encT) (fun _ => rfl) (hS1.le (fr_le _ _))) (by simp; omega) fun v5 H4 ho5 => ?_
  have hkF := hk.freeze ho5.1
  have hv5 := (OwnS.slf2 (enc := encT) (fun _ => rfl) ho5).le (join_r (hk.lF.trans ho5.1) (fr_le _ _))
  have htl : ∀ t ∈ tagsE (goodE L) ++ [[120]], t.length ≤ 1000000 := by
    intro t ht
    rw [List.mem_append, List.mem_singleton] at ht
    rcases ht with ht | rfl
    · have := htag t ht; omega
    · decide
  have htn : (tagsE (goodE L) ++ [[120]]).length ≤ 1000000 := by rw [List.length_append, List.length_singleton]; omega
  clear hR Am Rm hom hvm hk ho14 hle3 hS1 O2 ho5 hfl htl2 htag
  generalize join F (fr H H4) = F2 at *
  generalize tagsE (goodE L) ++ [[120]] = tags at *
  generalize goodE L = E at *
  generalize w.toNat = wn at *
  generalize n.toNat = nn at *
  have RV := fun H (hl : Heap.le F2 H) => (hv5.le hl).rules1 (fun s => .string (str s)) (fun _ => rfl) default
  try simp (disch := first | omega | (simp only [PL]; omega)) only [PS, P1, P2, P3, P4, P5, P6, P7, P8, PA, PB, PC, Nat.reduceAdd, Nat.reduceSub, Nat.reduceMul, Nat.reduceLeDiff, Nat.reduceEqDiff, Nat.succ_ne_self, reduceCtorEq, Int.reduceToNat, Int.cast_ofNat_Int, Int.reduceEq, Int.reduceNe, Int.reduceLT, Int.reduceLE]
  refine i_loop (fun i : Nat => [none, none, none, none, none, some (.agg #[.string (str r.name), .int .i64 r.kind, .int .i64 r.first, .int .i64 r.thn, .int .i64 r.wout, .int .i64 r.wthn]), none, none, none, none, none, none, none, none, some (.pointer (some ⟨bt, 0, none⟩)), some (.pointer (some ⟨bm, 0, none⟩)), none, some (v5), some (.int .i64 (i : Nat)), none, none, none, none, none, none, none, none, none, none, none, none, none, none, none, none, none, none, none, none, none, none, none, none, none, none, none, none, none, none, none, none, none, none, none, none, none, none, none, none, none, none, none, none, none]) (fun i H => i ≤ tags.length ∧ ∃ gm', K2 h1 H gt gm' F2 ∧ RT gm' bm wn nn E) (fun i => tags.length - i) 0 (by try simp only [Pe, and_true, true_and, and_self]; rfl) ⟨by omega, gm, hkF, hM⟩ ?_
  clear hkF hM
  rintro i H5 ⟨hi, gm1, kH, hM1⟩
  have RVH := RV H5 kH.lF
  have hwi : IntKind.i64.wrap ((i : Int) + 1) = ((i + 1 : Nat) : Int) := by rw [w64 (by omega) (by omega)]; omega
  try simp (disch := first | omega | (simp only [PL]; omega)) only [PS, P1, P2, P3, P4, P5, P6, P7, P8, PA, PB, PC, Nat.reduceAdd, Nat.reduceSub, Nat.reduceMul, Nat.reduceLeDiff, Nat.reduceEqDiff, Nat.succ_ne_self, reduceCtorEq, Int.reduceToNat, Int.cast_ofNat_Int, Int.reduceEq, Int.reduceNe, Int.reduceLT, Int.reduceLE, RVH]
  refine i_cond (fun c1 => ?_) (fun c1 => ?_)
  rotate_left
  · try simp (disch := first | omega | (simp only [PL]; omega)) only [PS, P1, P2, P3, P4, P5, P6, P7, P8, PA, PB, PC, Nat.reduceAdd, Nat.reduceSub, Nat.reduceMul, Nat.reduceLeDiff, Nat.reduceEqDiff, Nat.succ_ne_self, reduceCtorEq, Int.reduceToNat, Int.cast_ofNat_Int, Int.reduceEq, Int.reduceNe, Int.reduceLT, Int.reduceLE]
    exact hK H5 (hle1.trans kH.le)
  have hi2 : i < tags.length := by omega
  have htg := htl _ (getD_mem default hi2)
  try simp (disch := first | omega | (simp only [PL]; omega)) only [PS, P1, P2, P3, P4, P5, P6, P7, P8, PA, PB, PC, Nat.reduceAdd, Nat.reduceSub, Nat.reduceMul, Nat.reduceLeDiff, Nat.reduceEqDiff, Nat.succ_ne_self, reduceCtorEq, Int.reduceToNat, Int.cast_ofNat_Int, Int.reduceEq, Int.reduceNe, Int.reduceLT, Int.reduceLE]
  refine i_loop (fun e : Nat => [none, none, none, none, none, some (.agg #[.string (str r.name), .int .i64 r.kind, .int .i64 r.first, .int .i64 r.thn, .int .i64 r.wout, .int .i64 r.wthn]), none, none, none, none, none, none, none, none, some (.pointer (some ⟨bt, 0, none⟩)), some (.pointer (some ⟨bm, 0, none⟩)), none, some (v5), some (.int .i64 (i : Nat)), some (.int .i64 ((e : Int) - 1)), none, none, none, none, none, none, none, none, none, none, none, none, none, none, none, none, none, none, none, none, none, none, none, none, none, none, none, none, none, none, none, none, none, none, none, none, none, none, none, none, none, none, none, none]) (fun e H => e ≤ E.length + 2 ∧ ∃ gm', K2 h1 H gt gm' F2 ∧ RT gm' bm wn nn E) (fun e => E.length + 2 - e) 0 (by try simp only [Pe, and_true, true_and, and_self]; rfl) ⟨by omega, gm1, kH, hM1⟩ ?_
  clear RVH kH hM1
  rintro e H6 ⟨he, gm2, kH, hM2⟩
  have RVH := RV H6 kH.lF
  obtain ⟨evm, fvm, hom, ⟨vsm, hvm, hvml, _⟩, _⟩ := hM2.read kH.lm
  have Am : H6.cell ((⟨bm, 0, none⟩ : Addr).add 2) = some evm := hom.rules.1 2 (by simp)
  have Rm := hvm.rules1 id (fun _ => rfl) undef
  rw [hvml] at Rm
  try simp (disch := first | omega | (simp only [PL]; omega)) only [PS, P1, P2, P3, P4, P5, P6, P7, P8, PA, PB, PC, Nat.reduceAdd, Nat.reduceSub, Nat.reduceMul, Nat.reduceLeDiff, Nat.reduceEqDiff, Nat.succ_ne_self, reduceCtorEq, Int.reduceToNat, Int.cast_ofNat_Int, Int.reduceEq, Int.reduceNe, Int.reduceLT, Int.reduceLE, Am, Rm]
  refine i_cond (fun c2 => ?_) (fun c2 => ?_)
  rotate_left
  · try simp (disch := first | omega | (simp only [PL]; omega)) only [PS, P1, P2, P3, P4, P5, P6, P7, P8, PA, PB, PC, Nat.reduceAdd, Nat.reduceSub, Nat.reduceMul, Nat.reduceLeDiff, Nat.reduceEqDiff, Nat.succ_ne_self, reduceCtorEq, Int.reduceToNat, Int.cast_ofNat_Int, Int.reduceEq, Int.reduceNe, Int.reduceLT, Int.reduceLE, hwi]
    exact k_loop (i + 1) (by omega) (by try simp only [Pe, and_true, true_and, and_self]) ⟨by omega, gm2, kH, hM2⟩
  have hei : IntKind.i64.wrap ((e : Int) - 1 + 1) = ((e + 1 : Nat) : Int) - 1 := by rw [w64 (by omega) (by omega)]; omega
  try simp (disch := first | omega | (simp only [PL]; omega)) only [PS, P1, P2, P3, P4, P5, P6, P7, P8, PA, PB, PC, Nat.reduceAdd, Nat.reduceSub, Nat.reduceMul, Nat.reduceLeDiff, Nat.reduceEqDiff, Nat.succ_ne_self, reduceCtorEq, Int.reduceToNat, Int.cast_ofNat_Int, Int.reduceEq, Int.reduceNe, Int.reduceLT, Int.reduceLE, RVH]
  refine i_call H174 ⟨gt, bt, wn, nn, E, r, _, (e : Int) - 1, rfl, hT', kH.lt, by omega, by omega, by omega, fun H7 hle7 => ?_⟩
  refine i_le (le_one hle7) ?_
  have kH7 := kH.more hle7
  try simp (disch := first | omega | (simp only [PL]; omega)) only [PS, P1, P2, P3, P4, P5, P6, P7, P8, PA, PB, PC, Nat.reduceAdd, Nat.reduceSub, Nat.reduceMul, Nat.reduceLeDiff, Nat.reduceEqDiff, Nat.succ_ne_self, reduceCtorEq, Int.reduceToNat, Int.cast_ofNat_Int, Int.reduceEq, Int.reduceNe, Int.reduceLT, Int.reduceLE]
  refine i_call H175 ⟨gm2, bm, wn, nn, E, r, _, (e : Int) - 1, rfl, hM2, kH7.lm, hokE, htg, by omega, by omega, by omega, fun gm3 H8 hS8 hM3 => ?_⟩
  have kH8 := kH7.stepM hS8
  try simp (disch := first | omega | (simp only [PL]; omega)) only [PS, P1, P2, P3, P4, P5, P6, P7, P8, PA, PB, PC, Nat.reduceAdd, Nat.reduceSub, Nat.reduceMul, Nat.reduceLeDiff, Nat.reduceEqDiff, Nat.succ_ne_self, reduceCtorEq, Int.reduceToNat, Int.cast_ofNat_Int, Int.reduceEq, Int.reduceNe, Int.reduceLT, Int.reduceLE, hei]
  exact k_loop (e + 1) (by omega) (by try simp only [Pe, and_true, true_and, and_self]) ⟨by omega, gm3, kH8, hM3⟩
end Go.Cw
namespace Go.Cw
open Go
theorem idx_one (c : UInt8) : ∀ s : List UInt8, (c ∉ s → Lib.index s [c] = -1) ∧ (c ∈ s → Lib.index s [c] = ((cutH c s).length : Nat)) := by
  intro s
  induction s with
  | nil => simp [Lib.index]
  | cons x r ih =>
    by_cases hx : x = c
    · subst hx
      refine ⟨fun h => absurd (by simp) h, fun _ => ?_⟩
      simp [Lib.index, List.isPrefixOf, cutH]
    · have hp : ([c] : List UInt8).isPrefixOf (x :: r) = false := by simp [List.isPrefixOf, Ne.symm hx]
      have e1 : cutH c (x :: r) = x :: cutH c r := by unfold cutH; rw [List.takeWhile_cons, if_pos (by simpa using hx)]
      have hix : Lib.index (x :: r) [c] = if Lib.index r [c] == -1 then -1 else Lib.index r [c] + 1 := by rw [Lib.index, hp]; simp
      rw [hix]
      refine ⟨fun h => ?_, fun h => ?_⟩
      · rw [List.mem_cons, not_or] at h
        rw [if_pos (beq_iff_eq.2 (ih.1 h.2))]
      · have h2 : c ∈ r := by
          rw [List.mem_cons] at h
          rcases h with e | h
          · exact absurd e.symm hx
          · exact h
        rw [if_neg (by rw [beq_iff_eq, ih.2 h2]; omega), ih.2 h2, e1]
        simp
theorem cutHT {c : UInt8} : ∀ {s : List UInt8}, c ∈ s → s.take (cutH c s).length = cutH c s ∧ s.drop ((cutH c s).length + 1) = cutT c s := by
  intro s
  induction s with
  | nil => intro h; simp at h
  | cons x r ih =>
    intro h
    by_cases hx : x = c
    · subst hx; simp [cutH, cutT]
    · have h2 : c ∈ r := by
        rw [List.mem_cons] at h
        rcases h with e | h
        · exact absurd e.symm hx
        · exact h
      have e1 : cutH c (x :: r) = x :: cutH c r := by unfold cutH; rw [List.takeWhile_cons, if_pos (by simpa using hx)]
      have e2 : cutT c (x :: r) = cutT c r := by unfold cutT; rw [List.dropWhile_cons, if_pos (by simpa using hx)]
      obtain ⟨i1, i2⟩ := ih h2
      rw [e1, e2]
      exact ⟨by simp [i1], by simpa using i2⟩
theorem cutH_not (c : UInt8) : ∀ s : List UInt8, c ∉ cutH c s := by
  intro s
  induction s with
  | nil => simp [cutH]
  | cons x r ih =>
    unfold cutH at *
    rw [List.takeWhile_cons]
    split
    · rename_i hx
      rw [List.mem_cons, not_or]
      exact ⟨Ne.symm (by simpa using hx), ih⟩
    · simp
theorem cut_eq {c : UInt8} : ∀ {s : List UInt8}, c ∈ s → s = cutH c s ++ c :: cutT c s := by
  intro s
  induction s with
  | nil => intro h; simp at h
  | cons x r ih =>
    intro h
    by_cases hx : x = c
    · subst hx; simp [cutH, cutT]
    · have h2 : c ∈ r := by
        rw [List.mem_cons] at h
        rcases h with e | h
        · exact absurd e.symm hx
        · exact h
      have e1 : cutH c (x :: r) = x :: cutH c r := by unfold cutH; rw [List.takeWhile_cons, if_pos (by simpa using hx)]
      have e2 : cutT c (x :: r) = cutT c r := by unfold cutT; rw [List.dropWhile_cons, if_pos (by simpa using hx)]
      rw [e1, e2, List.cons_append, ← ih h2]
theorem lib_split (c : UInt8) : ∀ (k : Nat) (s : List UInt8), s.count c ≤ k → Lib.splitK [c] 0 k s = pcs c s := by
  intro k
  induction k with
  | zero =>
    intro s h
    have : c ∉ s := by rw [← List.count_eq_zero]; omega
    rw [pcs_no this]; rfl
  | succ k ih =>
    intro s h
    obtain ⟨h1, h2⟩ := idx_one c s
    by_cases hc : c ∈ s
    · obtain ⟨q1, q2⟩ := cutHT hc
      have e : s = cutH c s ++ c :: cutT c s := cut_eq hc
      have hcnt : s.count c = (cutT c s).count c + 1 := by
        have h0 : (cutH c s).count c = 0 := by
          rw [List.count_eq_zero]
          exact cutH_not c s
        conv => lhs; rw [e]
        rw [List.count_append, h0, List.count_cons_self]; omega
      unfold Lib.splitK
      rw [h2 hc, if_neg (by rw [beq_iff_eq]; omega), pcs_cut hc]
      simp only [Int.toNat_natCast, Nat.add_zero, List.length_singleton]
      rw [q1, q2, ih _ (by omega)]
    · unfold Lib.splitK
      rw [h1 hc, if_pos (by rfl), pcs_no hc]
theorem decDigits_dec (n : Nat) : Lib.decDigits n = dec n := by
  induction n using Nat.strongRecOn with
  | _ n ih =>
    by_cases h : n < 10
    · rw [Lib.decDigits, dif_pos h, dec_lt h]
      unfold dig; rw [Nat.mod_eq_of_lt h]
    · rw [Lib.decDigits, dif_neg h, dec_ge (by omega), ih _ (by omega)]; rfl
theorem itoa_dec (n : Nat) : Lib.itoa (n : Int) = dec n := by
  unfold Lib.itoa
  rw [if_neg (by omega), Int.toNat_natCast, decDigits_dec]
end Go.Cw
namespace Go.Cw
open Go
inductive Ty where
  | int | str | bool | nil
  | cons (a b : Ty)
  | sl (e : Ty)
  deriving DecidableEq
def Ty.size : Ty → Nat
  | .int | .str | .bool | .sl _ => 1
  | .nil => 0
  | .cons a b => a.size + b.size
def full (w : World) : Heap := fun b => w.heap[b]?
theorem full_sub (w : World) : (full w).sub w := fun _ _ h => h
def Mat (w : World) : Ty → List Value → Prop
  | .int, cs => ∃ n, cs = [.int .i64 n] ∧ (Lit.int .i64 n).wf = true
  | .str, cs => ∃ s, cs = [.string s] ∧ s.size ≤ maxLen
  | .bool, cs => ∃ b, cs = [.bool b]
  | .nil, cs => cs = []
  | .cons a b, cs => ∃ x y, cs = x ++ y ∧ Mat w a x ∧ Mat w b y
  | .sl e, cs => ∃ a n cap, cs = [.slice a n cap] ∧ n ≤ cap ∧ cap ≤ maxLen ∧ (n = 0 ∨ ∃ g, a = some g ∧ ∃ rows : List (List Value), rows.length = n ∧ rowAt (full w) g rows.flatten ∧ ∀ r ∈ rows, Mat w e r)
def chkFs (P : Program) (chk : TypeId → Ty → Bool) : List Field → Nat → Ty → Bool
  | [], _, .nil => true
  | f :: r, off, .cons a b => f.offset == off && P.cellsOf f.type == a.size && chk f.type a && chkFs P chk r (off + a.size) b
  | _, _, _ => false
def chkAr (P : Program) (chk : TypeId → Ty → Bool) (e : TypeId) : Nat → Ty → Bool
  | 0, .nil => true
  | n + 1, .cons a b => P.cellsOf e == a.size && chk e a && chkAr P chk e n b
  | _, _ => false
def chk (P : Program) : Nat → TypeId → Ty → Bool
  | 0, _, _ => false
  | n + 1, t, ty =>
    match P.underlying t with
    | some (.int .i64) => ty == .int
    | some .string => ty == .str
    | some .bool => ty == .bool
    | some (.slice e) =>
      match ty with
      | .sl x => P.cellsOf e == x.size && decide (0 < x.size) && chk P n e x
      | _ => false
    | some (.struct fs) => P.cellsOf t == ty.size && chkFs P (chk P n) fs.toList 0 ty
    | some (.array k e) => P.cellsOf t == ty.size && chkAr P (chk P n) e k ty
    | _ => false
theorem mapM_some {α β : Type} {f : α → Option β} : ∀ {l : List α} {r : List β}, l.mapM f = some r → r.length = l.length ∧ ∀ i (h : i < l.length) (h' : i < r.length), f l[i] = some r[i] := by
  intro l
  induction l with
  | nil => intro r h; simp at h; subst h; simp
  | cons a l ih =>
    intro r h
    simp only [List.mapM_cons, Option.bind_eq_bind, Option.bind_eq_some_iff, Option.pure_def, Option.some.injEq] at h
    obtain ⟨y, h1, ys, h2, rfl⟩ := h
    obtain ⟨h3, h4⟩ := ih h2
    refine ⟨by simp [h3], fun i hi hi' => ?_⟩
    cases i with
    | zero => simpa using h1
    | succ i => simpa using h4 i (by simpa using hi) (by simpa using hi')
theorem cells_row {w : World} {a : Addr} {n : Nat} {cs : List Value} (h : w.cells? 0 a n = some cs) (hn : 0 < n) : cs.length = n ∧ a.spot = none ∧ ∀ i (hi : i < cs.length), w.cell? (a.add i) = some cs[i] := by
  simp only [World.cells?, Nat.zero_le, if_true] at h
  obtain ⟨h1, h2⟩ := mapM_some h
  have hl : cs.length = n := by simpa using h1
  refine ⟨hl, ?_, fun i hi => ?_⟩
  · have h3 := h2 0 (by simpa using hn) (by omega)
    simp only [List.getElem_range, addr_zero] at h3
    exact World.cell?_spot h3
  · have := h2 i (by simpa using by omega) hi
    simpa using this
theorem row_of_cells {w : World} {a : Addr} {cs : List Value} (hs : a.spot = none) (h : ∀ i (hi : i < cs.length), w.cell? (a.add i) = some cs[i]) (hne : cs ≠ []) : rowAt (full w) a cs := by
  have hb : ∀ i (hi : i < cs.length), ∃ c t fz, w.heap[a.block]? = some (.cells c t fz) ∧ c[a.off + i]? = some cs[i] := by
    intro i hi
    have h1 := h i hi
    rw [addr_add' a hs] at h1
    simp only [World.cell?] at h1
    split at h1
    · rename_i c t fz hh; exact ⟨c, t, fz, hh, by simpa using h1⟩
    · cases h1
  have hl : 0 < cs.length := List.length_pos_iff.2 hne
  obtain ⟨c, t, fz, h1, _⟩ := hb 0 hl
  refine ⟨hs, c, t, fz, h1, ?_, ?_⟩
  · obtain ⟨c', t', fz', h2, h3⟩ := hb (cs.length - 1) (by omega)
    rw [h1] at h2; cases h2
    have := (Array.getElem?_eq_some_iff.1 h3).1
    omega
  · intro i hi
    obtain ⟨c', t', fz', h2, h3⟩ := hb i hi
    rw [h1] at h2; cases h2
    rw [h3, List.getElem?_eq_getElem hi]
variable {H : Type} {enc : TypeId × Value → H} {P : Program} {w : World}
theorem mat_fs {n : Nat} (ih : ∀ (t : TypeId) (ty : Ty) (fuel : Nat) (cs : List Value) (x : DataW H × List MemPlace), chk P n t ty = true → DataW.trod enc P w 0 (fun _ => true) true fuel t cs = some x → Mat w ty cs) (fuel : Nat) (cs : List Value) :
    ∀ (fs : List Field) (off : Nat) (ty : Ty), chkFs P (chk P n) fs off ty = true → cs.length = off + ty.size →
      (∀ f ∈ fs, ∃ x, DataW.trod enc P w 0 (fun _ => true) true fuel f.type ((cs.drop f.offset).take (P.cellsOf f.type)) = some x) → Mat w ty (cs.drop off) := by
  intro fs
  induction fs with
  | nil =>
    intro off ty h1 h2 _
    cases ty <;> simp [chkFs] at h1
    simp only [Ty.size] at h2
    show cs.drop off = []
    exact List.drop_eq_nil_of_le (by omega)
  | cons f r ihr =>
    intro off ty h1 h2 h3
    cases ty with
    | cons a b =>
      simp only [chkFs, Bool.and_eq_true, beq_iff_eq] at h1
      obtain ⟨⟨⟨e1, e2⟩, e3⟩, e4⟩ := h1
      obtain ⟨y, h5⟩ := h3 f (by simp)
      simp only [Ty.size] at h2
      refine ⟨(cs.drop off).take a.size, cs.drop (off + a.size), ?_, ?_, ?_⟩
      · rw [← List.drop_drop, List.take_append_drop]
      · rw [e1, e2] at h5; exact ih _ _ _ _ _ e3 h5
      · exact ihr _ _ e4 (by omega) fun g hg => h3 g (by simp [hg])
    | _ => simp [chkFs] at h1
theorem mat_ar {n : Nat} (ih : ∀ (t : TypeId) (ty : Ty) (fuel : Nat) (cs : List Value) (x : DataW H × List MemPlace), chk P n t ty = true → DataW.trod enc P w 0 (fun _ => true) true fuel t cs = some x → Mat w ty cs) (fuel : Nat) (cs : List Value) (e : TypeId) :
    ∀ (k i : Nat) (ty : Ty), chkAr P (chk P n) e k ty = true → cs.length = i * P.cellsOf e + ty.size →
      (∀ j, j < k → ∃ x, DataW.trod enc P w 0 (fun _ => true) true fuel e ((cs.drop ((i + j) * P.cellsOf e)).take (P.cellsOf e)) = some x) → Mat w ty (cs.drop (i * P.cellsOf e)) := by
  intro k
  induction k with
  | zero =>
    intro i ty h1 h2 _
    cases ty <;> simp [chkAr] at h1
    simp only [Ty.size] at h2
    show cs.drop _ = []
    exact List.drop_eq_nil_of_le (by omega)
  | succ k ihk =>
    intro i ty h1 h2 h3
    cases ty with
    | cons a b =>
      simp only [chkAr, Bool.and_eq_true, beq_iff_eq] at h1
      obtain ⟨⟨e2, e3⟩, e4⟩ := h1
      simp only [Ty.size] at h2
      obtain ⟨x, h5⟩ := h3 0 (by omega)
      have e6 : i * P.cellsOf e + a.size = (i + 1) * P.cellsOf e := by rw [Nat.add_mul, e2]; omega
      refine ⟨(cs.drop (i * P.cellsOf e)).take a.size, cs.drop ((i + 1) * P.cellsOf e), ?_, ?_, ?_⟩
      · rw [← e6, ← List.drop_drop, List.take_append_drop]
      · rw [Nat.add_zero] at h5; rw [← e2]; exact ih _ _ _ _ _ e3 h5
      · refine ihk (i + 1) b e4 (by omega) fun j hj => ?_
        have := h3 (j + 1) (by omega)
        rwa [show i + (j + 1) = i + 1 + j by omega] at this
    | _ => simp [chkAr] at h1
theorem mat_of_trod : ∀ (n : Nat) (t : TypeId) (ty : Ty) (fuel : Nat) (cs : List Value) (x : DataW H × List MemPlace), chk P n t ty = true → DataW.trod enc P w 0 (fun _ => true) true fuel t cs = some x → Mat w ty cs := by
  intro n
  induction n with
  | zero => intro t ty fuel cs x h; simp [chk] at h
  | succ n ih =>
    intro t ty fuel cs x hc h
    cases fuel with
    | zero => simp [DataW.trod] at h
    | succ fuel =>
      simp only [chk] at hc
      split at hc
      · rename_i hu
        simp only [beq_iff_eq] at hc; subst hc
        obtain ⟨m, rfl, _, h1⟩ := DataW.trod_int hu h
        exact ⟨m, rfl, h1⟩
      · rename_i hu
        simp only [beq_iff_eq] at hc; subst hc
        obtain ⟨m, rfl, _, h1⟩ := DataW.trod_string hu h
        exact ⟨m, rfl, h1⟩
      · rename_i hu
        simp only [beq_iff_eq] at hc; subst hc
        obtain ⟨m, rfl, _⟩ := DataW.trod_bool hu h
        exact ⟨m, rfl⟩
      · rename_i e hu
        split at hc
        · rename_i y
          simp only [Bool.and_eq_true, beq_iff_eq, decide_eq_true_eq] at hc
          obtain ⟨⟨e1, e2⟩, e3⟩ := hc
          rcases DataW.trod_slice hu h with ⟨rfl, _⟩ | ⟨a, len, cap, elems, rest, m, _, rfl, _, _, hl, hm, hlen, hel, _⟩
          · exact ⟨none, 0, 0, rfl, Nat.le_refl _, Nat.zero_le _, .inl rfl⟩
          · refine ⟨some a, len, cap, rfl, hl, hm, ?_⟩
            by_cases h0 : len = 0
            · exact .inl h0
            · have key : ∀ i, i < len → ∃ r, w.cells? 0 (a.add (i * P.cellsOf e)) (P.cellsOf e) = some r ∧ Mat w y r := by
                intro i hi
                have h5 := hel i hi
                rw [List.getElem?_eq_getElem (by omega), Option.bind_eq_some_iff] at h5
                obtain ⟨r, h6, h7⟩ := h5
                exact ⟨r, h6, ih _ _ _ _ _ e3 h7⟩
              have h9' : a.spot = none := by
                obtain ⟨r, h6, h7⟩ := key 0 (by omega)
                obtain ⟨_, h9, _⟩ := cells_row h6 (by omega)
                rw [Nat.zero_mul, addr_zero] at h9
                exact h9
              have hrows : ∀ k, k ≤ len → ∃ rows : List (List Value), rows.length = k ∧ (∀ r ∈ rows, Mat w y r) ∧ rows.flatten.length = k * y.size ∧ ∀ i (hi : i < rows.flatten.length), w.cell? (a.add i) = some rows.flatten[i] := by
                intro k
                induction k with
                | zero => intro _; exact ⟨[], rfl, by simp, by simp, by simp⟩
                | succ k ihk =>
                  intro hk
                  obtain ⟨rows, r1, r2, r3, r4⟩ := ihk (by omega)
                  obtain ⟨r, h6, h7⟩ := key k (by omega)
                  obtain ⟨h8, h9, h10⟩ := cells_row h6 (by omega)
                  refine ⟨rows ++ [r], by simp [r1], ?_, ?_, ?_⟩
                  · intro x hx; simp at hx; rcases hx with hx | rfl
                    · exact r2 x hx
                    · exact h7
                  · simp [List.flatten_append, r3, h8, e1, Nat.add_mul]
                  · intro i hi
                    have e5 : (rows ++ [r]).flatten = rows.flatten ++ r := by simp
                    simp only [e5] at hi ⊢
                    by_cases hlt : i < rows.flatten.length
                    · rw [List.getElem_append_left hlt]; exact r4 i hlt
                    · rw [List.getElem_append_right (by omega)]
                      simp only [List.length_append] at hi
                      have := h10 (i - rows.flatten.length) (by omega)
                      rw [← this, addr_add' a h9', addr_add' a h9', addr_add' _ rfl]
                      congr 2
                      simp only
                      rw [r3, e1]; omega
              obtain ⟨rows, r1, r2, r3, r4⟩ := hrows len (Nat.le_refl _)
              have hne : rows.flatten ≠ [] := by
                intro h; rw [h] at r3
                have : 0 < len * y.size := Nat.mul_pos (by omega) e2
                simp at r3; omega
              exact .inr ⟨a, rfl, rows, r1, row_of_cells h9' r4 hne, r2⟩
        · cases hc
      · rename_i fs hu
        simp only [Bool.and_eq_true, beq_iff_eq] at hc
        obtain ⟨xs, m, h0, _, h1, h2, h3⟩ := DataW.trod_struct hu h
        have := mat_fs (enc := enc) ih m cs fs.toList 0 ty hc.2 (by omega) (by
          intro f hf
          obtain ⟨i, hi, rfl⟩ := List.getElem_of_mem hf
          have hi' : i < fs.size := by simpa using hi
          have h4 := h3 i fs[i] (by simp [hi'])
          rw [List.getElem?_eq_getElem (by omega)] at h4
          exact ⟨_, by simpa using h4⟩)
        simpa using this
      · rename_i k e hu
        simp only [Bool.and_eq_true, beq_iff_eq] at hc
        obtain ⟨xs, m, h0, _, h1, h2, h3⟩ := DataW.trod_array hu h
        have := mat_ar (enc := enc) ih m cs e k 0 ty hc.2 (by omega) (by
          intro j hj
          have h4 := h3 j hj
          rw [List.getElem?_eq_getElem (by omega)] at h4
          exact ⟨_, by simpa using h4⟩)
        simpa using this
      · cases hc
end Go.Cw
namespace Go.Cw
open Go Go.Proofs Go.RowKit
theorem WStep.below {h : Heap} {w w' : World} (hs : h.sub w) (b : Below w.heap.size w w') : WStep h h w w' :=
  ⟨fun x o hx => by
    have hw := hs x o hx
    rw [b.block x (Array.getElem?_eq_some_iff.1 hw).1]; exact hw, b.size, b.os, b.tape, b.output, fun x hx hn => ⟨hn, b.block x hx⟩⟩
theorem full_le {W w : World} {h : Heap} (hT : Heap.le (full W) h) (hs : h.sub w) {b : Nat} {o : Obj} (hb : W.heap[b]? = some o) : w.heap[b]? = some o := hs b o (hT b o hb)
theorem full_cell {W w : World} {h : Heap} (hT : Heap.le (full W) h) (hs : h.sub w) {a : Addr} {v : Value} (hc : W.cell? a = some v) : w.cell? a = some v := by
  unfold World.cell? at hc ⊢
  split at hc
  · rename_i c t fz hb
    rw [full_le hT hs hb]; exact hc
  · cases hc
theorem full_tab {P : Program} {W w : World} {h : Heap} (hT : Heap.le (full W) h) (hs : h.sub w) {name : String} {k : IntKind} {zs : List Int} (hc : Lib.TabIs P W name k zs) : Lib.TabIs P w name k zs := by
  unfold Lib.TabIs World.var? at hc ⊢
  cases hg : P.globalNamed name with
  | none => rw [hg] at hc; cases hc
  | some g =>
    rw [hg] at hc
    simp only [Option.bind_some] at hc ⊢
    split at hc
    · rename_i c t fz hb
      rw [full_le hT hs hb]; exact hc
    · cases hc
theorem bel_drewN (w : World) (n : Nat) : Below w.heap.size w (w.drewN n) := ⟨rfl, rfl, rfl, Nat.le_refl _, fun _ _ => rfl⟩
theorem bel_grow (w : World) (os : Array Obj) : Below w.heap.size w (Go.Sort.grow w os) := ⟨rfl, rfl, rfl, by rw [Go.Sort.size_grow]; omega, fun k hk => Go.Sort.heap_grow_old _ _ hk⟩
variable {P : Program} {ρ : Go.Shelf.Ren} {W : World}
theorem c176n_of (L : Go.Proofs.LaysM.n171 P ρ) (htab : Lib.TabIs P W "internal/strconv.uint64pow10" .u64 Lib.pow10Tab) : ∀ args h K, S176n (full W) args h K → ∀ w, h.sub w → Calls P (ρ.f 171) args.toArray w fun e w' => ∃ v h', e = .returned v ∧ K v h' ∧ WStep h h' w w' := by
  rintro _ h K ⟨n, rfl, hn, hT, hK⟩ w hs
  refine (Go.Proofs.Any.strconv_Itoa L (n : Int) (by omega) (by omega) w (full_tab hT hs htab)).mono ?_
  rintro e w' ⟨rfl, k, os, rfl⟩
  refine ⟨_, h, rfl, ?_, WStep.below hs ((bel_drewN w k).trans (bel_grow (w.drewN k) os))⟩
  rw [itoa_dec]
  exact hK h (Heap.le.refl h)
theorem c181_of (L : Go.Proofs.LaysM.n146 P ρ) (hsh : W.ShapedOpen P) : ∀ args h K, S181 (full W) args h K → ∀ w, h.sub w → Calls P (ρ.f 146) args.toArray w fun e w' => ∃ v h', e = .returned v ∧ K v h' ∧ WStep h h' w w' := by
  rintro _ h K ⟨s, c, rfl, hsl, hT, hK⟩ w hs
  obtain ⟨m, hm⟩ := L.s1_3 W hsh
  refine (Go.Proofs.Any.strings_Split { L with } L.i9 (str s) (str [c]) m w (by rw [str_size]; omega) (full_cell hT hs hm) (by rw [str_size]; simp)).mono ?_
  rintro e w' ⟨rfl, rfl⟩
  have hlen := Lib.splitB_all (str [c]) (by rw [str_size]; simp) 0 _ (str s) rfl
  have hdat := Lib.splitB_data (str [c]) 0 (Lib.countB (str s) (str [c])) (str s)
  rw [str_data, str_data, lib_split c _ s (by rw [Lib.countB, str_data, str_data, Lib.count_one]; exact Nat.le_refl _)] at hdat
  have hle := Lib.countB_le (str [c]) (by rw [str_size]; simp) (str s).size (str s) (Nat.le_refl _)
  rw [str_size] at hle
  generalize Lib.countB (str s) (str [c]) = k at *
  generalize hbs : Lib.splitB (str [c]) 0 k (str s) = bs at *
  have hpl : (pcs c s).length = k + 1 := by rw [← hdat, List.length_map, hlen]
  have hfl : (pcs c s).flatMap encT = bs.map Value.string := by
    rw [← hdat]
    clear hdat hlen hbs hpl hK
    induction bs with
    | nil => rfl
    | cons b bs ih => simp only [List.map_cons, List.flatMap_cons, encT, List.cons_append, List.nil_append, ih, str_of]
  have hnone : h w.heap.size = none := by
    cases hh : h w.heap.size with
    | none => rfl
    | some o => have := hs _ _ hh; simp at this
  refine ⟨_, h.set w.heap.size (.cells (bs.map Value.string).toArray (ρ.t 9) (0, 0)), rfl, hK _ _ ⟨(Heap.le.refl h).new hnone _, some ⟨w.heap.size, 0, none⟩, k + 1, by rw [hpl], by omega, by simp [maxLen]; omega, .inr ⟨w.heap.size, _, _, rfl, hnone, Heap.set_eq, by simp [hlen], fun i hi => by rw [hfl]; simp⟩⟩, WStep.push hs _⟩
end Go.Cw
namespace Go.Cw
open Go Go.RowKit
theorem mat_sl {w : World} {α : Type} {enc : α → List Value} {ty : Ty} {Good : α → Prop} (hc : ∀ cs, Mat w ty cs → ∃ x, Good x ∧ cs = enc x) {v : Value} (hm : Mat w (.sl ty) [v]) :
    ∃ l : List α, Sl enc (full w) v l ∧ (∀ x ∈ l, Good x) ∧ l.length ≤ maxLen := by
  obtain ⟨a, n, cap, e, h1, h2, h3⟩ := hm
  simp only [List.cons.injEq, and_true] at e
  subst e
  rcases h3 with rfl | ⟨g, rfl, rows, h4, h5, h6⟩
  · exact ⟨[], ⟨a, cap, rfl, by simp, .inl rfl⟩, by simp, by simp⟩
  · have key : ∀ rows : List (List Value), (∀ r ∈ rows, Mat w ty r) → ∃ l : List α, rows.flatten = l.flatMap enc ∧ l.length = rows.length ∧ ∀ x ∈ l, Good x := by
      intro rows
      induction rows with
      | nil => intro _; exact ⟨[], rfl, rfl, by simp⟩
      | cons r rows ih =>
        intro hr
        obtain ⟨l, a1, a2, a3⟩ := ih fun r hr' => hr r (by simp [hr'])
        obtain ⟨x, b1, b2⟩ := hc r (hr r (by simp))
        exact ⟨x :: l, by simp [a1, b2], by simp [a2], by simp; exact ⟨b1, a3⟩⟩
    obtain ⟨l, a1, a2, a3⟩ := key rows h6
    refine ⟨l, ⟨some g, cap, by rw [a2, h4], by rw [a2, h4]; exact h1, .inr ⟨g, rfl, by rw [← a1]; exact h5⟩⟩, a3, by rw [a2, h4]; omega⟩
theorem mat_int {w : World} {b : Ty} {cs : List Value} (h : Mat w (.cons .int b) cs) : ∃ n r, cs = .int .i64 n :: r ∧ Mat w b r := by
  obtain ⟨x, y, rfl, ⟨n, rfl, _⟩, h2⟩ := h
  exact ⟨n, y, rfl, h2⟩
theorem mat_str {w : World} {b : Ty} {cs : List Value} (h : Mat w (.cons .str b) cs) : ∃ (s : List UInt8) (r : List Value), cs = .string (str s) :: r ∧ s.length ≤ maxLen ∧ Mat w b r := by
  obtain ⟨x, y, rfl, ⟨n, rfl, h1⟩, h2⟩ := h
  exact ⟨n.data.toList, y, by rw [str_of]; rfl, by simpa using h1, h2⟩
def rdTy : Ty := .cons .int (.cons .int (.cons .int (.cons .str .nil)))
theorem mat_cell {w : World} {v : Value} {a : Option Addr} {n c : Nat} {ty : Ty} (he : v = .slice a n c) (h : Mat w ty v.cells.toList) : Mat w ty [v] := by subst he; simpa [Value.cells] using h
theorem law_calls {P : Program} {N : Num} {k : Nat} {f : FuncId} {args : List Value} {w : World} (hf : N.fid k = f) {fn : Func} (hn : P.funcs[f]? = some fn) (hb : (fn.body.isNone || fn.name == "runtime.NumGoroutine") = false) (h : GF P N k args (full w) fun v h' => v = .bool true ∧ Heap.le (full w) h') :
    Calls P f args.toArray w fun e w' => e = .returned (.bool true) ∧ Below w.heap.size w w' := by
  subst hf
  simp only [Bool.or_eq_false_iff] at hb
  rcases h with h | h
  rotate_left
  · exfalso
    obtain ⟨v, h', w', h1, _⟩ := h w (full_sub w)
    have hn' : fn.name ≠ "runtime.NumGoroutine" := by simpa using hb.2
    obtain ⟨c, hc⟩ : ∃ c, fn.body = some c := by
      cases hh : fn.body with
      | none => rw [hh] at hb; simp at hb
      | some c => exact ⟨c, rfl⟩
    simp [callFunc, program, Sem.run, hn, hn', hc] at h1
  refine (h.2 w (full_sub w)).mono ?_
  rintro e w' ⟨v, h', rfl, ⟨rfl, hle⟩, hs⟩
  refine ⟨rfl, hs.os, hs.tape, hs.output, hs.size, fun b hb => ?_⟩
  have h1 : full w b = some w.heap[b] := by simp [full, hb]
  rw [hs.sub b _ (hle b _ h1)]
  simp [hb]
end Go.Cw
namespace Go.Cw
open Go
theorem okWide_ag {P : Program} {w : World} {r : Reach} {b0 : Nat} {t : TypeId} {fs : Array Field} {v : Value} (ht : P.underlying t = some (.struct fs)) (h : Value.okWide P w r b0 t v) : ∃ cs, v = .agg cs := by
  unfold Value.okWide at h
  rw [ht] at h
  obtain ⟨cs, h1, _⟩ := h
  exact ⟨cs, h1⟩
end Go.Cw
namespace Go.Cw
open Go
theorem mat_si {w : World} (cs : List Value) (h : Mat w rdTy cs) : ∃ x : Si, True ∧ cs = x.enc := by
  obtain ⟨a, _, rfl, h1⟩ := mat_int h
  obtain ⟨b, _, rfl, h2⟩ := mat_int h1
  obtain ⟨c, _, rfl, h3⟩ := mat_int h2
  obtain ⟨s, _, rfl, _, h4⟩ := mat_str h3
  cases h4
  exact ⟨⟨a, b, c, s⟩, trivial, rfl⟩
theorem mat_ss {w : World} {v : Value} (h : Mat w (.sl (.sl rdTy)) [v]) : ∃ L, SS (full w) v L := by
  obtain ⟨l, hl, hg, _⟩ := mat_sl (enc := encV) (Good := fun x => ∃ r : List Si, Sl Si.enc (full w) x r) (by
    intro cs h
    have h' := h
    obtain ⟨a, n, cap, rfl, _⟩ := h
    obtain ⟨r, hr, _⟩ := mat_sl mat_si h'
    exact ⟨_, ⟨r, hr⟩, rfl⟩) h
  have : ∀ l : List Value, (∀ x ∈ l, ∃ r : List Si, Sl Si.enc (full w) x r) → ∃ L : List (List Si), l.length = L.length ∧ ∀ i, i < L.length → Sl Si.enc (full w) (l.getD i undef) (L.getD i []) := by
    intro l
    induction l with
    | nil => intro _; exact ⟨[], rfl, by simp⟩
    | cons r l ih =>
      intro h
      obtain ⟨L, h1, h2⟩ := ih fun r hr => h r (by simp [hr])
      obtain ⟨f, hf⟩ := h r (by simp)
      refine ⟨f :: L, by simp [h1], fun i hi => ?_⟩
      cases i with
      | zero => simpa using hf
      | succ i => simpa using h2 i (by simpa using hi)
  obtain ⟨L, h1, h2⟩ := this l hg
  exact ⟨L, l, hl, h1, h2⟩
end Go.Cw
namespace Go.Cw
open Go Go.Proofs Go.RowKit
theorem iface_of_laid {P : Program} {W : World} {name nm : String} {d : DataW Unit} {g : Nat} {ti : TypeId} {ms : Array (String × TypeId)} (hg : P.globalNamed name = some g) (hty : (P.globals[g]?).map (·.type) = some ti) (hi : P.underlying ti = some (.interface ms))
    (h : laidMet P [(name, .iface nm d)] W) : ∃ te pe, W.cell? ⟨g, 0, none⟩ = some (.iface te pe) := by
  obtain ⟨ps, ⟨g', t', cs, fuel, p, q, hg', ht', hvar, hd, _, _⟩, _⟩ := h
  obtain rfl := Option.some.inj (hg.symm.trans hg')
  obtain rfl := Option.some.inj (hty.symm.trans ht')
  obtain ⟨_, u, v, e, _, _⟩ := iface_of_trod hi hd
  refine ⟨u, v, ?_⟩
  have h0 := World.var?_cell hg hvar 0
  rw [h0]
  have : cs[0]? = cs.toList[0]? := by simp
  rw [this, e]; rfl
theorem parse_dig : ∀ (s : List UInt8) (acc : Nat), digs s → (acc + 1) * 10 ^ s.length ≤ 10 ^ 18 → Lib.parseUint10 acc s = .ok (s.foldl (fun a b => 10 * a + (b.toNat - 48)) acc) := by
  intro s
  induction s with
  | nil => intro acc _ _; rfl
  | cons c r ih =>
    intro acc hd hl
    have hc := hd c (by simp)
    have hp : 0 < 10 ^ r.length := Nat.pow_pos (by omega)
    have hl2 : (acc + 1) * 10 * 10 ^ r.length ≤ 10 ^ 18 := by
      rw [List.length_cons, Nat.pow_succ] at hl
      rw [Nat.mul_assoc, Nat.mul_comm 10]; exact hl
    have hacc : (acc + 1) * 10 ≤ 10 ^ 18 := Nat.le_trans (Nat.le_mul_of_pos_right _ hp) hl2
    unfold Lib.parseUint10
    rw [if_pos hc, if_neg (by omega), if_neg (by omega), List.foldl_cons, Nat.mul_comm acc 10]
    refine ih _ (fun b hb => hd b (by simp [hb])) (Nat.le_trans (Nat.mul_le_mul_right _ ?_) hl2)
    omega
theorem atoi_dec {n : Nat} (hn : n ≤ 1000000000000000) : Lib.atoiAll (dec n) = .ok (n : Int) := by
  have hl := dec_len 16 (n := n) (by omega) (by omega)
  have hd := digs_dec n
  have hp : 10 ^ (dec n).length ≤ 10 ^ 16 := Nat.pow_le_pow_right (by omega) hl
  have hpar := parse_dig (dec n) 0 hd (by omega)
  have hnv : (dec n).foldl (fun a b => 10 * a + (b.toNat - 48)) 0 = n := numv_dec n
  rw [hnv] at hpar
  cases hdn : dec n with
  | nil => exact absurd hdn (dec_ne n)
  | cons c r =>
    rw [hdn] at hd hpar
    have hc := hd c (by simp)
    have h1 : ¬ (c.toNat = 43 ∨ c.toNat = 45) := by omega
    have h2 : ¬ c.toNat = 45 := by omega
    have hm : Lib.parseMag (c :: r) = .ok n := by unfold Lib.parseMag; rw [if_neg (by simp)]; exact hpar
    have e : (if c.toNat = 43 ∨ c.toNat = 45 then r else c :: r) = c :: r := if_neg h1
    unfold Lib.atoiAll
    dsimp only
    rw [e, hm]
    dsimp only
    rw [if_neg (by omega), if_neg (by omega), if_neg h2]
theorem trim_lib (c : UInt8) (s : List UInt8) : Lib.trimSuffix s [c] = trimC c s := by
  unfold Lib.trimSuffix trimC Lib.hasSuffix
  rcases List.eq_nil_or_concat s with rfl | ⟨l, x, rfl⟩
  · simp
  · simp only [List.concat_eq_append]
    by_cases hx : x = c
    · subst hx
      rw [if_pos (by simp), if_pos (by simp)]
      simp
    · have h1 : ([c] : List UInt8).isSuffixOf (l ++ [x]) = false := by
        cases hh : ([c] : List UInt8).isSuffixOf (l ++ [x]) with
        | false => rfl
        | true =>
          rw [List.isSuffixOf_iff_suffix] at hh
          obtain ⟨t, ht⟩ := hh
          have := List.append_inj_right' ht (by simp)
          simp at this
          exact absurd this.symm hx
      rw [if_neg (by rw [h1]; simp), if_neg (by simp [hx])]
variable {P : Program} {ρ : Go.Shelf.Ren} {W : World}
theorem c191_of (L : Go.Proofs.Lays.n102 P ρ) : ∀ args h K, S191 args h K → ∀ w, h.sub w → Calls P (ρ.f 102) args.toArray w fun e w' => ∃ v h', e = .returned v ∧ K v h' ∧ WStep h h' w w' := by
  rintro _ h K ⟨s, c, rfl, hsl, hK⟩ w hs
  refine (Go.Proofs.Any.strings_TrimSuffix L (str s) (str [c]) w (by rw [str_size]; omega)).mono ?_
  rintro e w' ⟨rfl, rfl⟩
  refine ⟨_, h, rfl, ?_, WStep.refl hs⟩
  rw [str_data, str_data, trim_lib]
  exact hK h (Heap.le.refl h)
theorem c190_of (L : Go.Proofs.LaysC.n172 P ρ) (h1 : ∃ te pe, W.cell? ⟨(ρ.g 15), 0, none⟩ = some (.iface te pe)) (h2 : ∃ te pe, W.cell? ⟨(ρ.g 16), 0, none⟩ = some (.iface te pe)) : ∀ args h K, S190 (full W) args h K → ∀ w, h.sub w → Calls P (ρ.f 172) args.toArray w fun e w' => ∃ v h', e = .returned v ∧ K v h' ∧ WStep h h' w w' := by
  rintro _ h K ⟨s, rfl, hsl, hT, hK⟩ w hs
  obtain ⟨t1, p1, c1⟩ := h1
  obtain ⟨t2, p2, c2⟩ := h2
  have hno : ∀ {e : Lib.NumEnd Int}, Lib.atoiAll s = e → (∀ v, e ≠ .ok v) → ∀ n, s = dec n → n ≤ 1000000000000000 → False := by
    intro e he hne n hd hn
    rw [hd, atoi_dec hn] at he
    exact hne _ he.symm
  rcases ha : Lib.atoiAll s with v | _ | _
  · refine (Go.Proofs.Any.strconv_Atoi_ok L (str s) (by rw [str_size]; omega) v ha w).mono ?_
    rintro e w' ⟨rfl, hw⟩
    refine ⟨_, h, rfl, hK h v .nilIface (Heap.le.refl h) (fun n hd hn => ⟨?_, rfl⟩) (.inl rfl), ?_⟩
    · rw [hd, atoi_dec hn] at ha
      cases ha; rfl
    · rcases hw with rfl | ⟨t, rfl⟩
      · exact WStep.refl hs
      · exact WStep.below hs (Lib.bytesWorld_below w _ t)
  · refine (Go.Proofs.Any.strconv_Atoi_syntax L (str s) (by rw [str_size]; omega) ha _ w (full_cell hT hs c1) (.inr ⟨t1, p1, rfl⟩)).mono ?_
    rintro e w' ⟨M, rfl, _, _, hb⟩
    exact ⟨_, h, rfl, hK h 0 _ (Heap.le.refl h) (fun n hd hn => (hno ha (by intro v hv; cases hv) n hd hn).elim) (.inr ⟨_, _, rfl⟩), WStep.below hs hb⟩
  · refine (Go.Proofs.Any.strconv_Atoi_range L (str s) (by rw [str_size]; omega) ha _ w (full_cell hT hs c2) (.inr ⟨t2, p2, rfl⟩)).mono ?_
    rintro e w' ⟨M, rfl, _, _, hb⟩
    exact ⟨_, h, rfl, hK h _ _ (Heap.le.refl h) (fun n hd hn => (hno ha (by intro v hv; cases hv) n hd hn).elim) (.inr ⟨_, _, rfl⟩), WStep.below hs hb⟩
def ruleTy : Ty := .cons .str (.cons .int (.cons .int (.cons .int (.cons .int (.cons .int .nil)))))
theorem mat_rule {w : World} {cs : Array Value} (h : Mat w ruleTy cs.toList) : ∃ r : Rl, .agg cs = aggR r ∧ r.name.length ≤ 9223372036854775807 := by
  obtain ⟨s, r0, e0, hsl, h⟩ := mat_str h
  obtain ⟨b, r2, e2, h⟩ := mat_int h
  obtain ⟨c, r3, e3, h⟩ := mat_int h
  obtain ⟨d, r4, e4, h⟩ := mat_int h
  obtain ⟨e, r5, e5, h⟩ := mat_int h
  obtain ⟨f, r6, e6, h⟩ := mat_int h
  cases h
  refine ⟨⟨s, b, c, d, e, f⟩, ?_, by simpa [maxLen] using hsl⟩
  have : cs = cs.toList.toArray := rfl
  rw [this, e0, e2, e3, e4, e5, e6]; rfl
end Go.Cw
