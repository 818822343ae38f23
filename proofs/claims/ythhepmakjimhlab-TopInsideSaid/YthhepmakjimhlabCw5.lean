/- Part 5 of the proof of TopInside: a small language for the program's functions, its soundness, and what the functions do. No conditions beyond the theorems' own. -/
import Derived.Test.YthhepmakjimhlabCw4
import Derived.Below
import Derived.Carry
import Derived.Deep.Slices
import Derived.OpenShut
import Derived.ProofKit
import Derived.Shelf.Slices.In.SortNone2
import Derived.Shelf.Sort.Plain
import Derived.ShutString
import Derived.WalkKit
import GoSem.ClaimJoined
set_option linter.unusedSimpArgs false
set_option linter.unusedVariables false
/- Who is in whom: the model's walk. -/
namespace Go.Cw
open Go

theorem Step.keep2 {g h g' h' f : Heap} (a : Step g h g' h') (hf : Heap.le f h ∧ disj f g) : Heap.le f h' ∧ disj f g' := a.keep hf.1 hf.2
theorem ordT_take {l : List (List UInt8)} (h : ordT l) {i : Nat} (hi : i < l.length) : ∀ q ∈ l.take i, Op.bytesLess q (l.getD i default) = true := by
  intro q hq
  obtain ⟨j, hj, rfl⟩ := List.getElem_of_mem hq
  rw [List.length_take] at hj
  have := List.pairwise_iff_getElem.1 h j i (by omega) hi (by omega)
  rw [List.getElem_take]
  simpa [List.getD, hi] using this
def S69 : Spec := fun args h K => ∃ g bm window need E s was, ∃ e span score : Nat, args = [.pointer (some ⟨bm, 0, none⟩), .string (str s), .int .i64 e, .int .i64 span, .int .i64 score, .string (str was)] ∧ RT g bm window need E ∧ Heap.le g h ∧ MOkE window need E ∧ s.length ≤ 1000000 ∧ (∀ t, toldE E t → t.length ≤ 1000000) ∧ e < E.length ∧ 1 ≤ span ∧ span ≤ 8 ∧ 1 ≤ score ∧ score ≤ 8 ∧
  ∀ g' h' r, Step g h g' h' → RT g' bm window need E → IsPar window need E span score e s was r → K (.string (str r)) h'
theorem F69_ok {N : Num} {Γ : Ctx} [GoodC Γ] (H14 : Sat S14 (Γ 14)) (H83 : Sat S83 (Γ 83)) (H84 : Sat S84 (Γ 84)) : Sat S69 (SF N Γ F69) := by
  rintro _ h K ⟨g, bm, window, need, E, s, was, e, span, score, rfl, hT, hg, hm, hsl, htl, he, hs1, hs2, hc1, hc2, hK⟩
  have hR := hT.read hg
  have hel : E.length ≤ 1000 := hR.choose_spec.choose_spec.2.2.1
  have hn1 : 1 ≤ need := hm.2.2.1
  refine i_fun rfl ?_
  simp only [F69, env0, List.map, List.length, List.replicate, List.cons_append, List.nil_append, Nat.reduceSub, Nat.reduceAdd]
  obtain ⟨evm, fvm, hom, ⟨vsm, hvm, hvml, _⟩, _⟩ := id hR
  have Am : h.cell ((⟨bm, 0, none⟩ : Addr).add 2) = some evm := hom.rules.1 2 (by simp)
  have Rm := hvm.rules1 id (fun _ => rfl) undef
  rw [hvml] at Rm
  try simp (disch := first | omega | (simp only [PL]; omega)) only [PS, P1, P2, P3, P4, P5, P6, P7, P8, PA, PB, PC, Nat.reduceAdd, Nat.reduceSub, Nat.reduceMul, Nat.reduceLeDiff, Nat.reduceEqDiff, Nat.succ_ne_self, reduceCtorEq, Int.reduceToNat, Int.cast_ofNat_Int, Int.reduceEq, Int.reduceNe, Int.reduceLT, Int.reduceLE, Am, Rm]
  refine i_call H14 ⟨⟨bm, 0, none⟩, window, need, E, E.length, rfl, hR, fun v h1 ho => ?_⟩
  rw [List.take_of_length_le (by omega)] at ho
  have hord : ordT (tagsE E) := ordT_tagsOfL _
  have hmem := fun t => mem_tagsE E t
  have hfl := flatT_len E fun l hl => hR.choose_spec.choose_spec.2.2.2 l hl
  have htl2 : (tagsE E).length ≤ 1000000 := by have := tagsOfL_len (flatT E); unfold tagsE; omega
  generalize hL : tagsE E = L at *
  have hin : ∀ p, cand s p → 0 < togE window need E span s p e → p ∈ L := by
    intro p _ h0
    have := (togE_told hn1 h0).2
    obtain ⟨l, hl, hs⟩ := this
    exact (hmem p).2 ⟨l, List.mem_of_mem_take hl, hs⟩
  have hSl := ho.slf2 (enc := encT) (fun _ => rfl)
  have hF1 : Heap.le (fr h h1) h1 ∧ disj (fr h h1) g := by
    refine ⟨fr_le _ _, fun b hb => ?_⟩
    cases e1 : g b with
    | none => rfl
    | some o => exact absurd (fr_none (hg b o e1)) hb
  have hSt := Step.more hg ho.1
  generalize fr h h1 = F at *
  try simp (disch := first | omega | (simp only [PL]; omega)) only [PS, P1, P2, P3, P4, P5, P6, P7, P8, PA, PB, PC, Nat.reduceAdd, Nat.reduceSub, Nat.reduceMul, Nat.reduceLeDiff, Nat.reduceEqDiff, Nat.succ_ne_self, reduceCtorEq, Int.reduceToNat, Int.cast_ofNat_Int, Int.reduceEq, Int.reduceNe, Int.reduceLT, Int.reduceLE]
  refine i_meet_blk (fun env H => ∃ best g', Step g h g' H ∧ RT g' bm window need E ∧ Heap.le F H ∧ disj F g' ∧ MaxP (fun p => togE window need E span s p e) s L best ∧
    env = [some (.pointer (some ⟨bm, 0, none⟩)), some (.string (str s)), some (.int .i64 e), some (.int .i64 span), some (.int .i64 score), some (.string (str was)), none, some v, some (.int .i64 (best : Nat)), none, none, none, none, none, none, none, none, none, none, none, none, none, none, none, none, none, none, none, none]) ?_ ?_
  rotate_left
  · refine i_loop (fun x : Nat × Nat => [some (.pointer (some ⟨bm, 0, none⟩)), some (.string (str s)), some (.int .i64 e), some (.int .i64 span), some (.int .i64 score), some (.string (str was)), none, some v, some (.int .i64 (x.2 : Nat)), some (.int .i64 (x.1 : Nat)), none, none, none, none, none, none, none, none, none, none, none, none, none, none, none, none, none, none, none])
      (fun x H => x.1 ≤ L.length ∧ ∃ g', Step g h g' H ∧ RT g' bm window need E ∧ Heap.le F H ∧ disj F g' ∧ MaxP (fun p => togE window need E span s p e) s (L.take x.1) x.2) (fun x => L.length - x.1) (0, 0) (by dsimp only; try simp only [Pe, and_true, true_and, and_self]; rfl) ⟨by dsimp only; omega, g, hSt, hT, hF1.1, hF1.2, MaxP.nil⟩ ?_
    rintro ⟨i, best⟩ H ⟨hi, g1, hS1, hT1, hF⟩
    obtain ⟨hFl, hFd, hM⟩ := hF
    dsimp only at hi hM ⊢
    have RV := (hSl.le hFl).rules1 (fun t => .string (str t)) (fun _ => rfl) default
    try simp (disch := first | omega | (simp only [PL]; omega)) only [PS, P1, P2, P3, P4, P5, P6, P7, P8, PA, PB, PC, Nat.reduceAdd, Nat.reduceSub, Nat.reduceMul, Nat.reduceLeDiff, Nat.reduceEqDiff, Nat.succ_ne_self, reduceCtorEq, Int.reduceToNat, Int.cast_ofNat_Int, Int.reduceEq, Int.reduceNe, Int.reduceLT, Int.reduceLE, RV]
    refine i_cond (fun c => ?_) (fun c => ?_)
    rotate_left
    · have : i = L.length := by omega
      subst this
      rw [List.take_length] at hM
      try simp (disch := first | omega | (simp only [PL]; omega)) only [PS, P1, P2, P3, P4, P5, P6, P7, P8, PA, PB, PC, Nat.reduceAdd, Nat.reduceSub, Nat.reduceMul, Nat.reduceLeDiff, Nat.reduceEqDiff, Nat.succ_ne_self, reduceCtorEq, Int.reduceToNat, Int.cast_ofNat_Int, Int.reduceEq, Int.reduceNe, Int.reduceLT, Int.reduceLE]
      exact k_meet _ (by try simp only [Pe, and_true, true_and, and_self]) ⟨best, g1, hS1, hT1, hFl, hFd, hM, rfl⟩
    have hi2 : i < L.length := by omega
    have htt := htl _ ((hmem _).1 (getD_mem default hi2))
    have hnx : L.take (i + 1) = L.take i ++ [L.getD i default] := take_succ_d default hi2
    have hw : IntKind.i64.wrap ((i : Int) + 1) = ((i + 1 : Nat) : Int) := by rw [w64 (by omega) (by omega)]; omega
    generalize hp : L.getD i default = p at *
    try simp (disch := first | omega | (simp only [PL]; omega)) only [PS, P1, P2, P3, P4, P5, P6, P7, P8, PA, PB, PC, Nat.reduceAdd, Nat.reduceSub, Nat.reduceMul, Nat.reduceLeDiff, Nat.reduceEqDiff, Nat.succ_ne_self, reduceCtorEq, Int.reduceToNat, Int.cast_ofNat_Int, Int.reduceEq, Int.reduceNe, Int.reduceLT, Int.reduceLE]
    refine i_call H83 ⟨s, rfl, fun h2 hle2 => ?_⟩
    have hS2 := hS1.trans (Step.more hS1.le hle2)
    have RV2 := (hSl.le (hFl.trans hle2)).rules1 (fun t => .string (str t)) (fun _ => rfl) default
    by_cases hk : 0 < kindOf s
    · have hk' : (0 < kindOf s) = True := by simpa using hk
      try simp (disch := first | omega | (simp only [PL]; omega)) only [PS, P1, P2, P3, P4, P5, P6, P7, P8, PA, PB, PC, Nat.reduceAdd, Nat.reduceSub, Nat.reduceMul, Nat.reduceLeDiff, Nat.reduceEqDiff, Nat.succ_ne_self, reduceCtorEq, Int.reduceToNat, Int.cast_ofNat_Int, Int.reduceEq, Int.reduceNe, Int.reduceLT, Int.reduceLE, hk', RV2, hp]
      refine i_call H83 ⟨p, rfl, fun h3 hle3 => ?_⟩
      try simp (disch := first | omega | (simp only [PL]; omega)) only [PS, P1, P2, P3, P4, P5, P6, P7, P8, PA, PB, PC, Nat.reduceAdd, Nat.reduceSub, Nat.reduceMul, Nat.reduceLeDiff, Nat.reduceEqDiff, Nat.succ_ne_self, reduceCtorEq, Int.reduceToNat, Int.cast_ofNat_Int, Int.reduceEq, Int.reduceNe, Int.reduceLT, Int.reduceLE]
      refine i_call H83 ⟨s, rfl, fun h4 hle4 => ?_⟩
      have hle24 := hle3.trans hle4
      have hS4 := hS2.trans (Step.more hS2.le hle24)
      have hF4 := hFl.trans (hle2.trans hle24)
      have RV4 := (hSl.le hF4).rules1 (fun t => .string (str t)) (fun _ => rfl) default
      try simp (disch := first | omega | (simp only [PL]; omega)) only [PS, P1, P2, P3, P4, P5, P6, P7, P8, PA, PB, PC, Nat.reduceAdd, Nat.reduceSub, Nat.reduceMul, Nat.reduceLeDiff, Nat.reduceEqDiff, Nat.succ_ne_self, reduceCtorEq, Int.reduceToNat, Int.cast_ofNat_Int, Int.reduceEq, Int.reduceNe, Int.reduceLT, Int.reduceLE]
      refine i_cond (fun c2 => ?_) (fun c2 => ?_)
      · try simp (disch := first | omega | (simp only [PL]; omega)) only [PS, P1, P2, P3, P4, P5, P6, P7, P8, PA, PB, PC, Nat.reduceAdd, Nat.reduceSub, Nat.reduceMul, Nat.reduceLeDiff, Nat.reduceEqDiff, Nat.succ_ne_self, reduceCtorEq, Int.reduceToNat, Int.cast_ofNat_Int, Int.reduceEq, Int.reduceNe, Int.reduceLT, Int.reduceLE, RV4, hp]
        refine i_call H84 ⟨g1, bm, window, need, E, s, p, e, span, rfl, hT1, hS4.le, hm, hsl, htt, he, hs1, hs2, fun g5 h5 hS5 hT5 => ?_⟩
        obtain ⟨hF5, hd5⟩ := hS5.keep hF4 hFd
        have hmx : max (best : Int) ((togE window need E span s p e : Nat) : Int) = ((max best (togE window need E span s p e) : Nat) : Int) := by omega
        try simp (disch := first | omega | (simp only [PL]; omega)) only [PS, P1, P2, P3, P4, P5, P6, P7, P8, PA, PB, PC, Nat.reduceAdd, Nat.reduceSub, Nat.reduceMul, Nat.reduceLeDiff, Nat.reduceEqDiff, Nat.succ_ne_self, reduceCtorEq, Int.reduceToNat, Int.cast_ofNat_Int, Int.reduceEq, Int.reduceNe, Int.reduceLT, Int.reduceLE, hmx, hw]
        exact k_loop (i + 1, max best (togE window need E span s p e)) (by dsimp only; omega) (by dsimp only; try simp only [Pe, and_true, true_and, and_self]) ⟨by dsimp only; omega, g5, hS4.trans hS5, hT5, hF5, hd5, by rw [hnx]; exact hM.more ⟨hk, c2⟩⟩
      · try simp (disch := first | omega | (simp only [PL]; omega)) only [PS, P1, P2, P3, P4, P5, P6, P7, P8, PA, PB, PC, Nat.reduceAdd, Nat.reduceSub, Nat.reduceMul, Nat.reduceLeDiff, Nat.reduceEqDiff, Nat.succ_ne_self, reduceCtorEq, Int.reduceToNat, Int.cast_ofNat_Int, Int.reduceEq, Int.reduceNe, Int.reduceLT, Int.reduceLE, hw]
        exact k_loop (i + 1, best) (by dsimp only; omega) (by dsimp only; try simp only [Pe, and_true, true_and, and_self]) ⟨by dsimp only; omega, g1, hS4, hT1, hF4, hFd, by rw [hnx]; exact hM.skip fun hc => c2 hc.2⟩
    · have hk' : (0 < kindOf s) = False := by simpa using hk
      try simp (disch := first | omega | (simp only [PL]; omega)) only [PS, P1, P2, P3, P4, P5, P6, P7, P8, PA, PB, PC, Nat.reduceAdd, Nat.reduceSub, Nat.reduceMul, Nat.reduceLeDiff, Nat.reduceEqDiff, Nat.succ_ne_self, reduceCtorEq, Int.reduceToNat, Int.cast_ofNat_Int, Int.reduceEq, Int.reduceNe, Int.reduceLT, Int.reduceLE, hk', hw]
      exact k_loop (i + 1, best) (by dsimp only; omega) (by dsimp only; try simp only [Pe, and_true, true_and, and_self]) ⟨by dsimp only; omega, g1, hS2, hT1, hFl.trans hle2, hFd, by rw [hnx]; exact hM.skip fun hc => hk hc.1⟩
  rintro env H ⟨best, g1, hS1, hT1, hFl, hFd, hM, rfl⟩
  try simp (disch := first | omega | (simp only [PL]; omega)) only [PS, P1, P2, P3, P4, P5, P6, P7, P8, PA, PB, PC, Nat.reduceAdd, Nat.reduceSub, Nat.reduceMul, Nat.reduceLeDiff, Nat.reduceEqDiff, Nat.succ_ne_self, reduceCtorEq, Int.reduceToNat, Int.cast_ofNat_Int, Int.reduceEq, Int.reduceNe, Int.reduceLT, Int.reduceLE]
  refine i_loop (fun x : Nat × List UInt8 => [some (.pointer (some ⟨bm, 0, none⟩)), some (.string (str s)), some (.int .i64 e), some (.int .i64 span), some (.int .i64 score), some (.string (str was)), none, some v, some (.int .i64 (best : Nat)), none, some (.string (str x.2)), some (.int .i64 (x.1 : Nat)), none, none, none, none, none, none, none, none, none, none, none, none, none, none, none, none, none])
      (fun x H => x.1 ≤ L.length ∧ (best < score → x.1 = 0) ∧ ∃ g', Step g h g' H ∧ RT g' bm window need E ∧ Heap.le F H ∧ disj F g' ∧ FirstP (fun p => togE window need E span s p e) s was best (L.take x.1) x.2) (fun x => L.length - x.1) (0, []) (by try simp only [Pe, and_true, true_and, and_self]; rfl) ⟨by dsimp only; omega, fun _ => rfl, g1, hS1, hT1, hFl, hFd, FirstP.nil⟩ ?_
  clear hS1 hT1 hFl hFd
  rintro ⟨i, first⟩ H ⟨hi, hi0, g1, hS1, hT1, hFl, hFd, hP⟩
  dsimp only at hi hi0 hP ⊢
  have RV := (hSl.le hFl).rules1 (fun t => .string (str t)) (fun _ => rfl) default
  have hwr : ∀ r, IsPar window need E span score e s was r → K (.string (str r)) H := fun r hr => hK g1 H r hS1 hT1 hr
  by_cases hb : best < score
  · have hb1 : ((score : Int) ≤ (best : Int)) = False := by rw [eq_iff_iff]; simp; omega
    have hi00 := hi0 hb
    subst hi00
    obtain rfl : first = [] := by
      rcases hP with ⟨_, ⟨h1, _⟩ | ⟨h1, _⟩⟩
      · exact h1
      · simp at h1
    try simp (disch := first | omega | (simp only [PL]; omega)) only [PS, P1, P2, P3, P4, P5, P6, P7, P8, PA, PB, PC, Nat.reduceAdd, Nat.reduceSub, Nat.reduceMul, Nat.reduceLeDiff, Nat.reduceEqDiff, Nat.succ_ne_self, reduceCtorEq, Int.reduceToNat, Int.cast_ofNat_Int, Int.reduceEq, Int.reduceNe, Int.reduceLT, Int.reduceLE, RV, hb1]
    exact hwr [] (hM.ltP hc1 hb hin)
  have hb2 : ((score : Int) ≤ (best : Int)) = True := by rw [eq_iff_iff]; simp; omega
  have hsb : score ≤ best := by omega
  try simp (disch := first | omega | (simp only [PL]; omega)) only [PS, P1, P2, P3, P4, P5, P6, P7, P8, PA, PB, PC, Nat.reduceAdd, Nat.reduceSub, Nat.reduceMul, Nat.reduceLeDiff, Nat.reduceEqDiff, Nat.succ_ne_self, reduceCtorEq, Int.reduceToNat, Int.cast_ofNat_Int, Int.reduceEq, Int.reduceNe, Int.reduceLT, Int.reduceLE, RV, hb2]
  refine i_cond (fun c => ?_) (fun c => ?_)
  rotate_left
  · have : i = L.length := by omega
    subst this
    rw [List.take_length] at hP
    try simp (disch := first | omega | (simp only [PL]; omega)) only [PS, P1, P2, P3, P4, P5, P6, P7, P8, PA, PB, PC, Nat.reduceAdd, Nat.reduceSub, Nat.reduceMul, Nat.reduceLeDiff, Nat.reduceEqDiff, Nat.succ_ne_self, reduceCtorEq, Int.reduceToNat, Int.cast_ofNat_Int, Int.reduceEq, Int.reduceNe, Int.reduceLT, Int.reduceLE]
    exact hwr first (hM.firstP hc1 hsb hin hP)
  have hi2 : i < L.length := by omega
  have hpm := getD_mem default hi2
  have htt := htl _ ((hmem _).1 hpm)
  have hnx : L.take (i + 1) = L.take i ++ [L.getD i default] := take_succ_d default hi2
  have hw : IntKind.i64.wrap ((i : Int) + 1) = ((i + 1 : Nat) : Int) := by rw [w64 (by omega) (by omega)]; omega
  have hordi := ordT_take hord hi2
  have hks : 0 < kindOf s := by
    rcases hM.2 with h2 | ⟨q, _, hq, _⟩
    · omega
    · exact hq.1
  generalize hp : L.getD i default = p at *
  try simp (disch := first | omega | (simp only [PL]; omega)) only [PS, P1, P2, P3, P4, P5, P6, P7, P8, PA, PB, PC, Nat.reduceAdd, Nat.reduceSub, Nat.reduceMul, Nat.reduceLeDiff, Nat.reduceEqDiff, Nat.succ_ne_self, reduceCtorEq, Int.reduceToNat, Int.cast_ofNat_Int, Int.reduceEq, Int.reduceNe, Int.reduceLT, Int.reduceLE, RV, hp]
  refine i_call H83 ⟨p, rfl, fun h2 hle2 => ?_⟩
  try simp (disch := first | omega | (simp only [PL]; omega)) only [PS, P1, P2, P3, P4, P5, P6, P7, P8, PA, PB, PC, Nat.reduceAdd, Nat.reduceSub, Nat.reduceMul, Nat.reduceLeDiff, Nat.reduceEqDiff, Nat.succ_ne_self, reduceCtorEq, Int.reduceToNat, Int.cast_ofNat_Int, Int.reduceEq, Int.reduceNe, Int.reduceLT, Int.reduceLE]
  refine i_call H83 ⟨s, rfl, fun h3 hle3 => ?_⟩
  have hle23 := hle2.trans hle3
  have hS3 := hS1.trans (Step.more hS1.le hle23)
  have hF3 := hFl.trans hle23
  have RV3 := (hSl.le hF3).rules1 (fun t => .string (str t)) (fun _ => rfl) default
  by_cases hk : kindOf s < kindOf p
  rotate_left
  · have hk' : (kindOf s < kindOf p) = False := by simpa using hk
    try simp (disch := first | omega | (simp only [PL]; omega)) only [PS, P1, P2, P3, P4, P5, P6, P7, P8, PA, PB, PC, Nat.reduceAdd, Nat.reduceSub, Nat.reduceMul, Nat.reduceLeDiff, Nat.reduceEqDiff, Nat.succ_ne_self, reduceCtorEq, Int.reduceToNat, Int.cast_ofNat_Int, Int.reduceEq, Int.reduceNe, Int.reduceLT, Int.reduceLE, hk', hw]
    exact k_loop (i + 1, first) (by dsimp only; omega) (by dsimp only; try simp only [Pe, and_true, true_and, and_self]) ⟨by dsimp only; omega, fun h => by omega, g1, hS3, hT1, hF3, hFd, by rw [hnx]; exact hP.skip fun hc => hk hc.1.2⟩
  have hk' : (kindOf s < kindOf p) = True := by simpa using hk
  try simp (disch := first | omega | (simp only [PL]; omega)) only [PS, P1, P2, P3, P4, P5, P6, P7, P8, PA, PB, PC, Nat.reduceAdd, Nat.reduceSub, Nat.reduceMul, Nat.reduceLeDiff, Nat.reduceEqDiff, Nat.succ_ne_self, reduceCtorEq, Int.reduceToNat, Int.cast_ofNat_Int, Int.reduceEq, Int.reduceNe, Int.reduceLT, Int.reduceLE, hk', RV3, hp]
  refine i_call H84 ⟨g1, bm, window, need, E, s, p, e, span, rfl, hT1, hS3.le, hm, hsl, htt, he, hs1, hs2, fun g5 h5 hS5 hT5 => ?_⟩
  obtain ⟨hF5, hd5⟩ := hS5.keep hF3 hFd
  have hS := hS3.trans hS5
  have RV5 := (hSl.le hF5).rules1 (fun t => .string (str t)) (fun _ => rfl) default
  try simp (disch := first | omega | (simp only [PL]; omega)) only [PS, P1, P2, P3, P4, P5, P6, P7, P8, PA, PB, PC, Nat.reduceAdd, Nat.reduceSub, Nat.reduceMul, Nat.reduceLeDiff, Nat.reduceEqDiff, Nat.succ_ne_self, reduceCtorEq, Int.reduceToNat, Int.cast_ofNat_Int, Int.reduceEq, Int.reduceNe, Int.reduceLT, Int.reduceLE]
  refine i_cond (fun c2 => ?_) (fun c2 => ?_)
  rotate_left
  · try simp (disch := first | omega | (simp only [PL]; omega)) only [PS, P1, P2, P3, P4, P5, P6, P7, P8, PA, PB, PC, Nat.reduceAdd, Nat.reduceSub, Nat.reduceMul, Nat.reduceLeDiff, Nat.reduceEqDiff, Nat.succ_ne_self, reduceCtorEq, Int.reduceToNat, Int.cast_ofNat_Int, Int.reduceEq, Int.reduceNe, Int.reduceLT, Int.reduceLE, hw]
    exact k_loop (i + 1, first) (by dsimp only; omega) (by dsimp only; try simp only [Pe, and_true, true_and, and_self]) ⟨by dsimp only; omega, fun h => by omega, g5, hS, hT5, hF5, hd5, by rw [hnx]; exact hP.skip fun hc => c2 (by have := hc.2; omega)⟩
  have hTp : togE window need E span s p e = best := by omega
  try simp (disch := first | omega | (simp only [PL]; omega)) only [PS, P1, P2, P3, P4, P5, P6, P7, P8, PA, PB, PC, Nat.reduceAdd, Nat.reduceSub, Nat.reduceMul, Nat.reduceLeDiff, Nat.reduceEqDiff, Nat.succ_ne_self, reduceCtorEq, Int.reduceToNat, Int.cast_ofNat_Int, Int.reduceEq, Int.reduceNe, Int.reduceLT, Int.reduceLE, RV5, hp]
  refine i_cond (fun c3 => ?_) (fun c3 => ?_)
  · subst c3
    try simp (disch := first | omega | (simp only [PL]; omega)) only [PS, P1, P2, P3, P4, P5, P6, P7, P8, PA, PB, PC, Nat.reduceAdd, Nat.reduceSub, Nat.reduceMul, Nat.reduceLeDiff, Nat.reduceEqDiff, Nat.succ_ne_self, reduceCtorEq, Int.reduceToNat, Int.cast_ofNat_Int, Int.reduceEq, Int.reduceNe, Int.reduceLT, Int.reduceLE]
    exact hK g5 h5 _ hS hT5 (hM.wasP hc1 hsb hin ⟨hks, hk⟩ hTp)
  have hnext := hP.take ⟨hks, hk⟩ hTp c3 hordi
  rw [← hnx] at hnext
  try simp (disch := first | omega | (simp only [PL]; omega)) only [PS, P1, P2, P3, P4, P5, P6, P7, P8, PA, PB, PC, Nat.reduceAdd, Nat.reduceSub, Nat.reduceMul, Nat.reduceLeDiff, Nat.reduceEqDiff, Nat.succ_ne_self, reduceCtorEq, Int.reduceToNat, Int.cast_ofNat_Int, Int.reduceEq, Int.reduceNe, Int.reduceLT, Int.reduceLE]
  refine i_cond (fun c4 => ?_) (fun c4 => ?_)
  · subst c4
    rw [if_pos rfl] at hnext
    try simp (disch := first | omega | (simp only [PL]; omega)) only [PS, P1, P2, P3, P4, P5, P6, P7, P8, PA, PB, PC, Nat.reduceAdd, Nat.reduceSub, Nat.reduceMul, Nat.reduceLeDiff, Nat.reduceEqDiff, Nat.succ_ne_self, reduceCtorEq, Int.reduceToNat, Int.cast_ofNat_Int, Int.reduceEq, Int.reduceNe, Int.reduceLT, Int.reduceLE, RV5, hp, hw]
    exact k_loop (i + 1, p) (by dsimp only; omega) (by dsimp only; try simp only [Pe, and_true, true_and, and_self]) ⟨by dsimp only; omega, fun h => by omega, g5, hS, hT5, hF5, hd5, hnext⟩
  · rw [if_neg c4] at hnext
    try simp (disch := first | omega | (simp only [PL]; omega)) only [PS, P1, P2, P3, P4, P5, P6, P7, P8, PA, PB, PC, Nat.reduceAdd, Nat.reduceSub, Nat.reduceMul, Nat.reduceLeDiff, Nat.reduceEqDiff, Nat.succ_ne_self, reduceCtorEq, Int.reduceToNat, Int.cast_ofNat_Int, Int.reduceEq, Int.reduceNe, Int.reduceLT, Int.reduceLE, hw]
    exact k_loop (i + 1, first) (by dsimp only; omega) (by dsimp only; try simp only [Pe, and_true, true_and, and_self]) ⟨by dsimp only; omega, fun h => by omega, g5, hS, hT5, hF5, hd5, hnext⟩
end Go.Cw
namespace Go.Cw
open Go

/-- what is one's own beside a part changes -/
theorem Step.side {g h g' H H' : Heap} (a : Step g h g' H) {v : Value} (hv : ∀ b, blkOf v = some b → (h b = none ∨ g b ≠ none) ∧ g' b = none) (hk : ∀ b o, H b = some o → blkOf v ≠ some b → H' b = some o) : Step g h g' H' := by
  refine ⟨fun b o hb => hk b o (a.le b o hb) fun e => ?_, fun b o hb hg => hk b o (a.frame b o hb hg) fun e => ?_, a.fresh⟩
  · rw [(hv b e).2] at hb; cases hb
  · rcases (hv b e).1 with h1 | h1
    · rw [h1] at hb; cases hb
    · exact h1 hg
theorem SlB.step {α : Type} {enc : α → List Value} {sz : Nat} {g h g' H : Heap} {v : Value} {l : List α} (hs : SlB enc sz h v l) (a : Step g h g' H) (hv : ∀ b, blkOf v = some b → g b = none) : SlB enc sz H v l := by
  refine hs.same fun b hb => ?_
  cases hh : h b with
  | none => exact absurd hh (hs.mem hb)
  | some o => exact a.frame b o hh (hv b hb)

section
variable (w n : Nat) (E : List (List Si)) (span score : Nat) (s : List UInt8)
noncomputable def parL (k : Nat) : List (List UInt8) := (List.range k).map (parE w n E span score s)
end
theorem parL_len {w n : Nat} {E : List (List Si)} {span score : Nat} {s : List UInt8} {k : Nat} : (parL w n E span score s k).length = k := by simp [parL]
theorem parL_succ {w n : Nat} {E : List (List Si)} {span score : Nat} {s : List UInt8} {k : Nat} : parL w n E span score s (k + 1) = parL w n E span score s k ++ [parE w n E span score s k] := by simp [parL, List.range_succ]
theorem parL_get {w n : Nat} {E : List (List Si)} {span score : Nat} {s : List UInt8} {k i : Nat} (h : i < k) : (parL w n E span score s k).getD i default = parE w n E span score s i := by
  simp [parL, List.getD, h]
def S48 : Spec := fun args h K => ∃ g bm window need E s, ∃ k span score : Nat, args = [.pointer (some ⟨bm, 0, none⟩), .string (str s), .int .i64 k, .int .i64 span, .int .i64 score] ∧ RT g bm window need E ∧ Heap.le g h ∧ MOkE window need E ∧ s.length ≤ 1000000 ∧ (∀ t, toldE E t → t.length ≤ 1000000) ∧ k ≤ E.length ∧ 1 ≤ span ∧ span ≤ 8 ∧ 1 ≤ score ∧ score ≤ 8 ∧
  ∀ g' h' v, Step g h g' h' → RT g' bm window need E → SlB encT 1 h' v (parL window need E span score s k) → (∀ b, blkOf v = some b → (h b = none ∨ g b ≠ none) ∧ g' b = none) → K v h'
theorem F48_ok {N : Num} {Γ : Ctx} [GoodC Γ] (H69 : Sat S69 (Γ 69)) : Sat S48 (SF N Γ F48) := by
  rintro _ h K ⟨g, bm, window, need, E, s, k, span, score, rfl, hT, hg, hm, hsl, htl, hk, hs1, hs2, hc1, hc2, hK⟩
  have hel : E.length ≤ 1000 := (hT.read hg).choose_spec.choose_spec.2.2.1
  refine i_fun rfl ?_
  simp only [F48, env0, List.map, List.length, List.replicate, List.cons_append, List.nil_append, Nat.reduceSub, Nat.reduceAdd]
  try simp (disch := first | omega | (simp only [PL]; omega)) only [PS, P1, P2, P3, P4, P5, P6, P7, P8, PA, PB, PC, Nat.reduceAdd, Nat.reduceSub, Nat.reduceMul, Nat.reduceLeDiff, Nat.reduceEqDiff, Nat.succ_ne_self, reduceCtorEq, Int.reduceToNat, Int.cast_ofNat_Int, Int.reduceEq, Int.reduceNe, Int.reduceLT, Int.reduceLE]
  refine i_loop (fun x : Nat × Value × List UInt8 => [some (.pointer (some ⟨bm, 0, none⟩)), some (.string (str s)), some (.int .i64 k), some (.int .i64 span), some (.int .i64 score), none, some x.2.1, some (.string (str x.2.2)), some (.int .i64 (x.1 : Nat)), none, none, none, none, none])
    (fun x H => x.1 ≤ k ∧ x.2.2 = wasE window need E span score s x.1 ∧ SlB encT 1 H x.2.1 (parL window need E span score s x.1) ∧ ∃ g', Step g h g' H ∧ RT g' bm window need E ∧ ∀ b, blkOf x.2.1 = some b → (h b = none ∨ g b ≠ none) ∧ g' b = none) (fun x => k - x.1) (0, .slice none 0 0, []) (by dsimp only; try simp only [Pe, and_true, true_and, and_self]; rfl) ⟨by dsimp only; omega, rfl, SlB.nil, g, Step.refl hg, hT, by simp [blkOf]⟩ ?_
  rintro ⟨i, v, was⟩ H ⟨hi, hwas, hS, g1, hS1, hT1, hvb⟩
  dsimp only at hi hwas hS hvb ⊢
  try simp (disch := first | omega | (simp only [PL]; omega)) only [PS, P1, P2, P3, P4, P5, P6, P7, P8, PA, PB, PC, Nat.reduceAdd, Nat.reduceSub, Nat.reduceMul, Nat.reduceLeDiff, Nat.reduceEqDiff, Nat.succ_ne_self, reduceCtorEq, Int.reduceToNat, Int.cast_ofNat_Int, Int.reduceEq, Int.reduceNe, Int.reduceLT, Int.reduceLE]
  refine i_cond (fun c => ?_) (fun c => ?_)
  rotate_left
  · have : i = k := by omega
    subst this
    try simp (disch := first | omega | (simp only [PL]; omega)) only [PS, P1, P2, P3, P4, P5, P6, P7, P8, PA, PB, PC, Nat.reduceAdd, Nat.reduceSub, Nat.reduceMul, Nat.reduceLeDiff, Nat.reduceEqDiff, Nat.succ_ne_self, reduceCtorEq, Int.reduceToNat, Int.cast_ofNat_Int, Int.reduceEq, Int.reduceNe, Int.reduceLT, Int.reduceLE]
    exact hK g1 H v hS1 hT1 hS hvb
  have hi2 : i < k := by omega
  have hw : IntKind.i64.wrap ((i : Int) + 1) = ((i + 1 : Nat) : Int) := by rw [w64 (by omega) (by omega)]; omega
  try simp (disch := first | omega | (simp only [PL]; omega)) only [PS, P1, P2, P3, P4, P5, P6, P7, P8, PA, PB, PC, Nat.reduceAdd, Nat.reduceSub, Nat.reduceMul, Nat.reduceLeDiff, Nat.reduceEqDiff, Nat.succ_ne_self, reduceCtorEq, Int.reduceToNat, Int.cast_ofNat_Int, Int.reduceEq, Int.reduceNe, Int.reduceLT, Int.reduceLE]
  refine i_call H69 ⟨g1, bm, window, need, E, s, was, i, span, score, rfl, hT1, hS1.le, hm, hsl, htl, by omega, hs1, hs2, hc1, hc2, fun g2 h2 r hS2 hT2 hr => ?_⟩
  have hr2 : parE window need E span score s i = r := par_of (by rw [← hwas]; exact hr)
  have hvH : ∀ b, blkOf v = some b → g1 b = none := fun b hb => (hvb b hb).2
  have hSl2 := hS.step hS2 hvH
  have hS12 := hS1.trans hS2
  have hvb2 : ∀ b, blkOf v = some b → (h b = none ∨ g b ≠ none) ∧ g2 b = none := fun b hb => ⟨(hvb b hb).1, hS2.fresh b (hS.mem hb) (hvb b hb).2⟩
  try simp (disch := first | omega | (simp only [PL]; omega)) only [PS, P1, P2, P3, P4, P5, P6, P7, P8, PA, PB, PC, Nat.reduceAdd, Nat.reduceSub, Nat.reduceMul, Nat.reduceLeDiff, Nat.reduceEqDiff, Nat.succ_ne_self, reduceCtorEq, Int.reduceToNat, Int.cast_ofNat_Int, Int.reduceEq, Int.reduceNe, Int.reduceLT, Int.reduceLE]
  refine i_bslB encT 1 (fun _ => rfl) [r] rfl rfl (by simp [maxLen]) fun x1 b1 h3 hle3 hb1 hx1 hS3 => ?_
  have O2 := hS3.one
  try simp (disch := first | omega | (simp only [PL]; omega)) only [PS, P1, P2, P3, P4, P5, P6, P7, P8, PA, PB, PC, Nat.reduceAdd, Nat.reduceSub, Nat.reduceMul, Nat.reduceLeDiff, Nat.reduceEqDiff, Nat.succ_ne_self, reduceCtorEq, Int.reduceToNat, Int.cast_ofNat_Int, Int.reduceEq, Int.reduceNe, Int.reduceLT, Int.reduceLE, O2.1, O2.2]
  refine i_appB (enc := encT) (sz := 1) (g := h3) (l := parL window need E span score s i) (l' := [r]) (fun _ => rfl) (by simp [encT, one]) (hSl2.le hle3) (Heap.le.refl h3) (SlB.sl (enc := encT) (fun _ => rfl) (hS3.le (fr_le _ _))) (by rw [parL_len]; simp; omega) fun v4 h4 g4 hS4 St4 e1 e2 e3 => ?_
  have hS13 := hS12.trans (Step.more hS12.le hle3)
  have hS14 : Step g h g2 h4 := hS13.side hvb2 e3
  rw [hr2.symm, ← parL_succ] at hS4
  try simp (disch := first | omega | (simp only [PL]; omega)) only [PS, P1, P2, P3, P4, P5, P6, P7, P8, PA, PB, PC, Nat.reduceAdd, Nat.reduceSub, Nat.reduceMul, Nat.reduceLeDiff, Nat.reduceEqDiff, Nat.succ_ne_self, reduceCtorEq, Int.reduceToNat, Int.cast_ofNat_Int, Int.reduceEq, Int.reduceNe, Int.reduceLT, Int.reduceLE, hw]
  refine k_loop (i + 1, v4, r) (by dsimp only; omega) (by dsimp only; try simp only [Pe, and_true, true_and, and_self]) ⟨by dsimp only; omega, hr2.symm, hS4.le St4.le, g2, hS14, hT2, fun b hb => ?_⟩
  rcases e2 b hb with h5 | h5
  · exact hvb2 b h5
  · have hh : h3 b = none := h5
    refine ⟨?_, ?_⟩
    · cases e : h b with
      | none => exact .inl rfl
      | some o =>
        cases eg : g b with
        | none => have := hS13.frame b o e eg; rw [hh] at this; cases this
        | some o' => exact .inr (by simp)
    · cases e : g2 b with
      | none => rfl
      | some o => have := hS13.le b o e; rw [hh] at this; cases this
end Go.Cw
namespace Go.Cw
open Go

def MapS (g : Heap) (m : Nat) (f : List UInt8 → List UInt8) : Prop := ∃ kv bs ck, MapB encKS encKS g m kv bs ck ∧ ∀ s, look kv s = if f s = [] then none else some (f s)
theorem MapS.le {g h : Heap} {m : Nat} {f : List UInt8 → List UInt8} (hm : MapS g m f) (hl : Heap.le g h) : MapS h m f := by
  obtain ⟨kv, bs, ck, h1, h2⟩ := hm; exact ⟨kv, bs, ck, h1.le hl, h2⟩
theorem MapS.lkp {h : Heap} {m : Nat} {f : List UInt8 → List UInt8} (hm : MapS h m f) (s : List UInt8) : o2V h (.lkp .str (.string (str []))) (.v (.map (some m))) (.v (.string (str s))) = some (.v (.string (str (f s)))) := by
  obtain ⟨kv, bs, ck, h1, h2⟩ := hm
  have := (h1.rules .str).1 (.string (str [])) s
  rw [show (Value.string (str s)) = encKS s from rfl, this, h2 s]
  by_cases h : f s = []
  · rw [if_pos h, h]
  · rw [if_neg h]; rfl
/-- an Inside in a part of memory -/
structure InP (g : Heap) (bx bt window need : Nat) (E : List (List Si)) (span score looked : Nat) (pv : Value) (ms : List Nat) (g0 : Heap) : Prop where
  obj : objAt g ⟨bx, 0, none⟩ [.int .i64 span, .int .i64 score, .pointer (some ⟨bt, 0, none⟩), pv]
  sl : SlB encM 1 g pv ms
  len : ms.length = looked
  le0 : Heap.le g0 g
  maps : ∀ i, i < looked → MapS g0 (ms.getD i 0) fun s => parE window need E span score s i
  nb : g0 bx = none
  ns : ∀ x, blkOf pv = some x → g0 x = none ∧ x ≠ bx
  lk : looked ≤ E.length
def InO (g : Heap) (bx bt window need : Nat) (E : List (List Si)) (span score looked : Nat) : Prop := ∃ pv ms g0, InP g bx bt window need E span score looked pv ms g0
/-- more was told meanwhile -/
theorem InO.more {g : Heap} {bx bt window need : Nat} {E E' : List (List Si)} {span score looked : Nat} (h : InO g bx bt window need E span score looked) : InO g bx bt window need (E ++ E') span score looked := by
  obtain ⟨pv, ms, g0, h⟩ := h
  refine ⟨pv, ms, g0, { h with maps := fun i hi => ?_, lk := by have := h.lk; simp; omega }⟩
  have := h.maps i hi
  have he : (fun s => parE window need (E ++ E') span score s i) = fun s => parE window need E span score s i := by
    funext s; exact parE_pre i (by have := h.lk; omega)
  rw [he]; exact this
def inBad (span score : Int) : Prop := span < 1 ∨ 8 < span ∨ score < 1 ∨ span < score
def S44 (N : Num) : Spec := fun args h K => ∃ bt window need span score, args = [.pointer (some ⟨bt, 0, none⟩), .int .i64 span, .int .i64 score] ∧
  (inBad span score → K (.tuple #[.pointer none, errV N 1]) h) ∧
  (¬ inBad span score → ∀ bx h', h bx = none → Heap.le h h' → (∀ E, InO (fr h h') bx bt window need E span.toNat score.toNat 0) → K (.tuple #[.pointer (some ⟨bx, 0, none⟩), .nilIface]) h')
theorem F44_ok {N : Num} {Γ : Ctx} [GoodC Γ] : Sat (S44 N) (SF N Γ F44) := by
  rintro _ h K ⟨bt, window, need, span, score, rfl, hK1, hK2⟩
  unfold inBad at hK1 hK2
  refine i_fun rfl ?_
  simp only [F44, env0, List.map, List.length, List.replicate, List.cons_append, List.nil_append, Nat.reduceSub, Nat.reduceAdd]
  try simp (disch := first | omega | (simp only [PL]; omega)) only [PS, P1, P2, P3, P4, P5, P6, P7, P8, PA, PB, PC, Nat.reduceAdd, Nat.reduceSub, Nat.reduceMul, Nat.reduceLeDiff, Nat.reduceEqDiff, Nat.succ_ne_self, reduceCtorEq, Int.reduceToNat, Int.cast_ofNat_Int, Int.reduceEq, Int.reduceNe, Int.reduceLT, Int.reduceLE]
  refine i_cond (fun c => ?_) (fun c => ?_)
  · try simp (disch := first | omega | (simp only [PL]; omega)) only [PS, P1, P2, P3, P4, P5, P6, P7, P8, PA, PB, PC, Nat.reduceAdd, Nat.reduceSub, Nat.reduceMul, Nat.reduceLeDiff, Nat.reduceEqDiff, Nat.succ_ne_self, reduceCtorEq, Int.reduceToNat, Int.cast_ofNat_Int, Int.reduceEq, Int.reduceNe, Int.reduceLT, Int.reduceLE]
    exact hK1 (by omega)
  · try simp (disch := first | omega | (simp only [PL]; omega)) only [PS, P1, P2, P3, P4, P5, P6, P7, P8, PA, PB, PC, Nat.reduceAdd, Nat.reduceSub, Nat.reduceMul, Nat.reduceLeDiff, Nat.reduceEqDiff, Nat.succ_ne_self, reduceCtorEq, Int.reduceToNat, Int.cast_ofNat_Int, Int.reduceEq, Int.reduceNe, Int.reduceLT, Int.reduceLE]
    refine i_newO fun bx h1 hle1 hb ho => ?_
    try simp (disch := first | omega | (simp only [PL]; omega)) only [PS, P1, P2, P3, P4, P5, P6, P7, P8, PA, PB, PC, Nat.reduceAdd, Nat.reduceSub, Nat.reduceMul, Nat.reduceLeDiff, Nat.reduceEqDiff, Nat.succ_ne_self, reduceCtorEq, Int.reduceToNat, Int.cast_ofNat_Int, Int.reduceEq, Int.reduceNe, Int.reduceLT, Int.reduceLE]
    refine hK2 (by omega) bx h1 hb hle1 fun E => ⟨.slice none 0 0, [], fun _ => none, ⟨?_, SlB.nil, rfl, fun _ _ h => (by cases h), fun i hi => by omega, rfl, by simp [blkOf], by omega⟩⟩
    have e1 : ((span.toNat : Nat) : Int) = span := by omega
    have e2 : ((score.toNat : Nat) : Int) = score := by omega
    rw [e1, e2]
    exact ho
theorem InP.read {g h : Heap} {bx bt window need : Nat} {E : List (List Si)} {span score looked : Nat} {pv : Value} {ms : List Nat} {g0 : Heap} (hT : InP g bx bt window need E span score looked pv ms g0) (hg : Heap.le g h) :
    h.cell ((⟨bx, 0, none⟩ : Addr).add 0) = some (.int .i64 span) ∧ h.cell ((⟨bx, 0, none⟩ : Addr).add 1) = some (.int .i64 score) ∧ h.cell ((⟨bx, 0, none⟩ : Addr).add 2) = some (.pointer (some ⟨bt, 0, none⟩)) ∧ h.cell ((⟨bx, 0, none⟩ : Addr).add 3) = some pv ∧ Sl encM h pv ms := by
  have ho := hT.obj.le hg
  exact ⟨ho.rules.1 0 (by simp), ho.rules.1 1 (by simp), ho.rules.1 2 (by simp), ho.rules.1 3 (by simp), SlB.sl (enc := encM) (sz := 1) (fun _ => rfl) (hT.sl.le hg)⟩
def S47 : Spec := fun args h K => ∃ g bx bt window need E span score looked, args = [.pointer (some ⟨bx, 0, none⟩)] ∧ InO g bx bt window need E span score looked ∧ Heap.le g h ∧ K (.int .i64 (looked : Nat)) h
theorem F47_ok {N : Num} {Γ : Ctx} [GoodC Γ] : Sat S47 (SF N Γ F47) := by
  rintro _ h K ⟨g, bx, bt, window, need, E, span, score, looked, rfl, ⟨pv, ms, g0, hT⟩, hg, hK⟩
  refine i_fun rfl ?_
  simp only [F47, env0, List.map, List.length, List.replicate, List.cons_append, List.nil_append, Nat.reduceSub, Nat.reduceAdd]
  obtain ⟨_, _, _, A3, hS⟩ := hT.read hg
  have R := hS.rules1 mapV (fun _ => rfl) 0
  rw [hT.len] at R
  try simp (disch := first | omega | (simp only [PL]; omega)) only [PS, P1, P2, P3, P4, P5, P6, P7, P8, PA, PB, PC, Nat.reduceAdd, Nat.reduceSub, Nat.reduceMul, Nat.reduceLeDiff, Nat.reduceEqDiff, Nat.succ_ne_self, reduceCtorEq, Int.reduceToNat, Int.cast_ofNat_Int, Int.reduceEq, Int.reduceNe, Int.reduceLT, Int.reduceLE, A3, R]
  exact hK
def S49 (N : Num) : Spec := fun args h K => ∃ g bx bt window need E span score looked s e, args = [.pointer (some ⟨bx, 0, none⟩), .string (str s), .int .i64 e] ∧ InO g bx bt window need E span score looked ∧ Heap.le g h ∧
  ((e < 0 ∨ (looked : Int) ≤ e) → K (.tuple #[.string (str []), errV N 1]) h) ∧ (∀ i : Nat, e = i → i < looked → K (.tuple #[.string (str (parE window need E span score s i)), .nilIface]) h)
theorem F49_ok {N : Num} {Γ : Ctx} [GoodC Γ] : Sat (S49 N) (SF N Γ F49) := by
  rintro _ h K ⟨g, bx, bt, window, need, E, span, score, looked, s, e, rfl, ⟨pv, ms, g0, hT⟩, hg, hK1, hK2⟩
  refine i_fun rfl ?_
  simp only [F49, env0, List.map, List.length, List.replicate, List.cons_append, List.nil_append, Nat.reduceSub, Nat.reduceAdd]
  obtain ⟨_, _, _, A3, hS⟩ := hT.read hg
  have R := hS.rules1 mapV (fun _ => rfl) 0
  rw [hT.len] at R
  try simp (disch := first | omega | (simp only [PL]; omega)) only [PS, P1, P2, P3, P4, P5, P6, P7, P8, PA, PB, PC, Nat.reduceAdd, Nat.reduceSub, Nat.reduceMul, Nat.reduceLeDiff, Nat.reduceEqDiff, Nat.succ_ne_self, reduceCtorEq, Int.reduceToNat, Int.cast_ofNat_Int, Int.reduceEq, Int.reduceNe, Int.reduceLT, Int.reduceLE, A3, R]
  refine i_cond (fun c => ?_) (fun c => ?_)
  · try simp (disch := first | omega | (simp only [PL]; omega)) only [PS, P1, P2, P3, P4, P5, P6, P7, P8, PA, PB, PC, Nat.reduceAdd, Nat.reduceSub, Nat.reduceMul, Nat.reduceLeDiff, Nat.reduceEqDiff, Nat.succ_ne_self, reduceCtorEq, Int.reduceToNat, Int.cast_ofNat_Int, Int.reduceEq, Int.reduceNe, Int.reduceLT, Int.reduceLE]
    exact hK1 (by omega)
  · obtain ⟨i, rfl⟩ : ∃ i : Nat, e = i := ⟨e.toNat, by omega⟩
    have hm := ((hT.maps i (by omega)).le (hT.le0.trans hg)).lkp s
    try simp (disch := first | omega | (simp only [PL]; omega)) only [PS, P1, P2, P3, P4, P5, P6, P7, P8, PA, PB, PC, Nat.reduceAdd, Nat.reduceSub, Nat.reduceMul, Nat.reduceLeDiff, Nat.reduceEqDiff, Nat.succ_ne_self, reduceCtorEq, Int.reduceToNat, Int.cast_ofNat_Int, Int.reduceEq, Int.reduceNe, Int.reduceLT, Int.reduceLE, A3, R, mapV, hm]
    exact hK2 i rfl (by omega)
end Go.Cw
namespace Go.Cw
open Go

/-- sorting -/
theorem bless_lt : ∀ (x y : List UInt8), Op.bytesLess x y = decide (x < y) := by
  intro x
  induction x with
  | nil =>
    intro y
    cases y with
    | nil => simp [Op.bytesLess]
    | cons b y => simp [Op.bytesLess]
  | cons a x ih =>
    intro y
    cases y with
    | nil => simp [Op.bytesLess]
    | cons b y =>
      rw [Bool.eq_iff_iff]
      simp [Op.bytesLess, ih, List.cons_lt_cons_iff]
abbrev srt (l : List (List UInt8)) : List (List UInt8) := l.mergeSort fun x y => decide (x ≤ y)
theorem leb_eq (x y : List UInt8) : decide (x ≤ y) = !Op.bytesLess y x := by
  rw [bless_lt, ← decide_not]
  exact decide_eq_decide.2 (by rw [List.not_lt])
theorem srt_ord {l : List (List UInt8)} (h : l.Nodup) : ordT (srt l) := by
  have hp : (srt l).Pairwise fun x y => decide (x ≤ y) = true := by
    refine List.pairwise_mergeSort (fun a b c h1 h2 => ?_) (fun a b => ?_) l
    · rw [leb_eq, Bool.not_eq_true'] at *
      cases h3 : Op.bytesLess c a with
      | false => rfl
      | true =>
        by_cases e : a = b
        · subst e; rw [h3] at h2; cases h2
        · rw [bless_trans h3 (bless_tot h1 (Ne.symm e))] at h2; cases h2
    · rw [leb_eq, leb_eq]
      cases h3 : Op.bytesLess b a with
      | false => rfl
      | true => rw [bless_asymm h3]; rfl
  have hn : (srt l).Nodup := (List.mergeSort_perm l _).nodup_iff.2 h
  refine List.Pairwise.imp₂ (fun {a b} h1 h2 => ?_) hp hn
  rw [leb_eq, Bool.not_eq_true'] at h1
  exact bless_tot h1 (Ne.symm h2)
theorem srt_mem {l : List (List UInt8)} {t : List UInt8} : t ∈ srt l ↔ t ∈ l := (List.mergeSort_perm l _).mem_iff
theorem srt_len {l : List (List UInt8)} : (srt l).length = l.length := (List.mergeSort_perm l _).length_eq
theorem nodup_le : ∀ {l m : List Nat}, l.Nodup → (∀ x ∈ l, x ∈ m) → l.length ≤ m.length := by
  intro l
  induction l with
  | nil => intro m _ _; simp
  | cons a l ih =>
    intro m hn hs
    have hn' := List.nodup_cons.1 hn
    have ha := hs a (by simp)
    have := ih (m := m.erase a) hn'.2 fun x hx => by
      have : x ≠ a := by rintro rfl; exact hn'.1 hx
      exact (List.mem_erase_of_ne this).2 (hs x (by simp [hx]))
    rw [List.length_erase_of_mem ha] at this
    have := List.length_pos_of_mem ha
    simp; omega
def S67 : Spec := fun args h K => ∃ v l, args = [v] ∧ SlB encT 1 h v l ∧ l.length ≤ 10000000 ∧ ∀ h', SlB encT 1 h' v (srt l) → (∀ b o, h b = some o → blkOf v ≠ some b → h' b = some o) → K (.tuple #[]) h'
theorem objAt.nset {h : Heap} {b m : Nat} {o : Obj} {cs : List Value} (ho : objAt h ⟨b, 0, none⟩ cs) (hm : b ≠ m) : objAt (h.set m o) ⟨b, 0, none⟩ cs := but.obj (b := m) (fun x hx => Heap.set_ne hx) hm ho
theorem objAt.kept {h h' : Heap} {b : Nat} {cs : List Value} (ho : objAt h ⟨b, 0, none⟩ cs) (hk : ∀ o, h b = some o → h' b = some o) : objAt h' ⟨b, 0, none⟩ cs := by
  obtain ⟨h1, c, t, h2, h3⟩ := ho
  exact ⟨h1, c, t, hk _ h2, h3⟩
/-- the new Inside, after an epoch -/
theorem InO.next {h H3 gx : Heap} {bx bt window need : Nat} {E : List (List Si)} {span score looked : Nat} {pv pv' : Value} {ms : List Nat} {g0 : Heap} {m : Nat}
    (hT : InP gx bx bt window need E span score looked pv ms g0) (hg : Heap.le gx h) (hm : h m = none) (hlE : looked < E.length)
    (hl : ∀ b o, h b = some o → b ≠ bx → blkOf pv ≠ some b → H3 b = some o)
    (hobj : objAt H3 ⟨bx, 0, none⟩ [.int .i64 span, .int .i64 score, .pointer (some ⟨bt, 0, none⟩), pv'])
    (hsl : SlB encM 1 H3 pv' (ms ++ [m])) (hmap : MapS H3 m fun s => parE window need E span score s looked) (hpm : blkOf pv' ≠ some m)
    (hpv : ∀ b, blkOf pv' = some b → blkOf pv = some b ∨ h b = none) : ∃ gx', Step gx h gx' H3 ∧ InO gx' bx bt window need E span score (looked + 1) := by
  have hbx : gx bx ≠ none := by obtain ⟨_, c, t, q, _⟩ := hT.obj; rw [q]; simp
  have hbh : h bx ≠ none := by
    cases e : gx bx with
    | none => exact absurd e hbx
    | some o => rw [hg _ _ e]; simp
  have hmb : m ≠ bx := by rintro rfl; exact hbh hm
  have hpx : ∀ b, blkOf pv' = some b → g0 b = none ∧ b ≠ bx ∧ b ≠ m := by
    intro b hb
    refine ⟨?_, ?_, fun e => hpm (by rw [hb, e])⟩
    · rcases hpv b hb with h1 | h1
      · exact (hT.ns b h1).1
      · exact le_none (hT.le0.trans hg) b h1
    · rcases hpv b hb with h1 | h1
      · exact (hT.ns b h1).2
      · rintro rfl; exact hbh h1
  have hg0m : g0 m = none := le_none (hT.le0.trans hg) m hm
  have hg03 : Heap.le g0 H3 := by
    intro b o hb
    refine hl b o (hg b o (hT.le0 b o hb)) (fun e => ?_) fun e => ?_
    · subst e; rw [hT.nb] at hb; cases hb
    · rw [(hT.ns b e).1] at hb; cases hb
  obtain ⟨g1, hg1⟩ : ∃ g1 : Heap, g1 = fun b => if b = m then H3 b else g0 b := ⟨_, rfl⟩
  obtain ⟨g2, hg2⟩ : ∃ g2 : Heap, g2 = fun b => if b = bx ∨ blkOf pv' = some b then H3 b else g1 b := ⟨_, rfl⟩
  have hle1 : Heap.le g1 H3 := by
    intro b o hb; rw [hg1] at hb; dsimp only at hb; split at hb
    · exact hb
    · exact hg03 b o hb
  have hle2 : Heap.le g2 H3 := by
    intro b o hb; rw [hg2] at hb; dsimp only at hb; split at hb
    · exact hb
    · exact hle1 b o hb
  have hle12 : Heap.le g1 g2 := by
    intro b o hb
    rw [hg2]; dsimp only; split
    · exact hle1 b o hb
    · exact hb
  refine ⟨g2, ⟨hle2, fun b o hb hn => ?_, fun b hb hn => ?_⟩, pv', ms ++ [m], g1, ⟨?_, ?_, by rw [List.length_append, hT.len]; rfl, hle12, fun i hi => ?_, ?_, fun x hx => ?_, by omega⟩⟩
  · refine hl b o hb (fun e => ?_) fun e => ?_
    · subst e; exact hbx hn
    · exact hT.sl.mem e hn
  · rw [hg2]; dsimp only
    have h1 : b ≠ bx := by rintro rfl; exact hbx hn
    have h2 : blkOf pv' ≠ some b := by
      intro e
      rcases hpv b e with h3 | h3
      · exact hT.sl.mem h3 hn
      · exact hb h3
    have h3 : b ≠ m := by rintro rfl; exact hb hm
    rw [if_neg (by simp [h1, h2]), hg1]
    dsimp only
    rw [if_neg h3]
    exact le_none hT.le0 b hn
  · exact hobj.kept fun o ho => by rw [hg2]; simp [ho]
  · exact hsl.same fun b hb => by rw [hg2]; simp [hb]
  · by_cases h1 : i < looked
    · have h2 := hT.maps i h1
      have h3 : Heap.le g0 g1 := by
        intro b o hb; rw [hg1]; dsimp only; rw [if_neg fun e => ?_]
        · exact hb
        · subst e; rw [hg0m] at hb; cases hb
      have h4 := h2.le h3
      have h5 : (ms ++ [m]).getD i 0 = ms.getD i 0 := by simp [List.getD, List.getElem?_append_left (show i < ms.length by rw [hT.len]; exact h1)]
      rw [h5]; exact h4
    · have h2 : i = looked := by omega
      subst h2
      have h5 : (ms ++ [m]).getD i 0 = m := by rw [← hT.len]; simp [List.getD]
      rw [h5]
      obtain ⟨kv, bs, ck, ⟨es, q1, q2⟩, q3⟩ := hmap
      exact ⟨kv, bs, ck, ⟨es, by rw [hg1]; simpa using q1, q2⟩, q3⟩
  · rw [hg1]; dsimp only; rw [if_neg (Ne.symm hmb)]; exact hT.nb
  · obtain ⟨h1, h2, h3⟩ := hpx x hx
    refine ⟨?_, h2⟩
    rw [hg1]; dsimp only; rw [if_neg h3]; exact h1
end Go.Cw
namespace Go.Cw
open Go

/-- what is gathered of the keys -/
def Gath (wkv : List (List UInt8 × Value)) (bs dn : List Nat) (l : List (List UInt8)) : Prop :=
  l.Nodup ∧ l.length ≤ dn.length ∧ ∀ t, t ∈ l ↔ 0 < kindOf t ∧ ∃ (j b : Nat) (u : Value), wkv[j]? = some (t, u) ∧ bs[j]? = some b ∧ b ∈ dn
theorem Gath.skip {wkv : List (List UInt8 × Value)} {bs dn : List Nat} {l : List (List UInt8)} (h : Gath wkv bs dn l) {j b : Nat} {key : List UInt8} {u : Value} (hj : wkv[j]? = some (key, u)) (hb : bs[j]? = some b) (hbs : bs.Nodup) (hk : ¬ 0 < kindOf key) : Gath wkv bs (dn ++ [b]) l := by
  refine ⟨h.1, by have := h.2.1; simp; omega, fun t => (h.2.2 t).trans ⟨fun ⟨h1, j', b', u', h2, h3, h4⟩ => ⟨h1, j', b', u', h2, h3, by simp [h4]⟩, fun ⟨h1, j', b', u', h2, h3, h4⟩ => ⟨h1, j', b', u', h2, h3, ?_⟩⟩⟩
  rw [List.mem_append, List.mem_singleton] at h4
  rcases h4 with h4 | rfl
  · exact h4
  · have := nodup_idx hbs hb h3
    subst this
    rw [hj] at h2
    simp only [Option.some.injEq, Prod.mk.injEq] at h2
    rw [h2.1] at hk; exact absurd h1 hk
theorem Gath.take {wkv : List (List UInt8 × Value)} {bs dn : List Nat} {l : List (List UInt8)} (h : Gath wkv bs dn l) {j b : Nat} {key : List UInt8} {u : Value} (hj : wkv[j]? = some (key, u)) (hb : bs[j]? = some b) (hbs : bs.Nodup) (hnd : (wkv.map (·.1)).Nodup) (hn : b ∉ dn) (hk : 0 < kindOf key) : Gath wkv bs (dn ++ [b]) (l ++ [key]) := by
  refine ⟨List.nodup_append.2 ⟨h.1, by simp, fun x hx y hy e => ?_⟩, by have := h.2.1; simp; omega, fun t => ⟨fun ht => ?_, fun ⟨h1, j', b', u', h2, h3, h4⟩ => ?_⟩⟩
  · simp at hy; subst hy; subst e
    obtain ⟨_, j', b', u', h2, h3, h4⟩ := (h.2.2 x).1 hx
    have h5 : (wkv.map (·.1))[j']? = some x := by rw [List.getElem?_map, h2]; rfl
    have h6 : (wkv.map (·.1))[j]? = some x := by rw [List.getElem?_map, hj]; rfl
    have := nodup_idx hnd h5 h6
    subst this
    rw [hb] at h3; cases h3; exact hn h4
  · rw [List.mem_append, List.mem_singleton] at ht
    rcases ht with ht | rfl
    · obtain ⟨h1, j', b', u', h2, h3, h4⟩ := (h.2.2 t).1 ht
      exact ⟨h1, j', b', u', h2, h3, by simp [h4]⟩
    · exact ⟨hk, j, b, u, hj, hb, by simp⟩
  · rw [List.mem_append, List.mem_singleton] at h4 ⊢
    rcases h4 with h4 | rfl
    · exact .inl ((h.2.2 t).2 ⟨h1, j', b', u', h2, h3, h4⟩)
    · have := nodup_idx hbs hb h3
      subst this
      rw [hj] at h2
      simp only [Option.some.injEq, Prod.mk.injEq] at h2
      exact .inr h2.1.symm

/-- what is known of the children that were gone through -/
def KidsOk (w n : Nat) (E : List (List Si)) (span score e : Nat) (pre : List (List UInt8)) (kv : List (List UInt8 × List UInt8)) : Prop :=
  ∀ s, look kv s = if s ∈ pre ∧ parE w n E span score s e ≠ [] then some (parE w n E span score s e) else none

def S46 : Spec := fun args h K => ∃ gx gt bx bt window need E span score looked, args = [.pointer (some ⟨bx, 0, none⟩)] ∧ InO gx bx bt window need E span score looked ∧ Heap.le gx h ∧ TrO gt bt window need E ∧ Heap.le gt h ∧ disj gt gx ∧ 1 ≤ need ∧ E.length ≤ 1000 ∧ (∀ l ∈ E, l.length ≤ 1000) ∧ 1 ≤ span ∧ span ≤ 8 ∧ 1 ≤ score ∧ score ≤ 8 ∧
  (looked = E.length → K (.bool false) h) ∧ (looked < E.length → ∀ gx' h', Step gx h gx' h' → InO gx' bx bt window need E span score (looked + 1) → K (.bool true) h')
theorem F46_ok {N : Num} {Γ : Ctx} [GoodC Γ] (H31 : Sat S31 (Γ 31)) (H54 : Sat (S54 N) (Γ 54)) (H66 : Sat S66 (Γ 66)) (H67 : Sat S67 (Γ 67)) (H68 : Sat S68 (Γ 68)) : Sat S46 (SF N Γ F46) := by
  rintro _ h K ⟨gx, gt, bx, bt, window, need, E, span, score, looked, rfl, ⟨pv, ms, g0, hI⟩, hgx, hT, hgt, hd, hn1, hEl, hEr, hs1, hs2, hc1, hc2, hK1, hK2⟩
  refine i_fun rfl ?_
  simp only [F46, env0, List.map, List.length, List.replicate, List.cons_append, List.nil_append, Nat.reduceSub, Nat.reduceAdd]
  have hlk := hI.lk
  obtain ⟨A0, A1, A2, A3, hPS⟩ := hI.read hgx
  have R := hPS.rules1 mapV (fun _ => rfl) 0
  rw [hI.len] at R
  try simp (disch := first | omega | (simp only [PL]; omega)) only [PS, P1, P2, P3, P4, P5, P6, P7, P8, PA, PB, PC, Nat.reduceAdd, Nat.reduceSub, Nat.reduceMul, Nat.reduceLeDiff, Nat.reduceEqDiff, Nat.succ_ne_self, reduceCtorEq, Int.reduceToNat, Int.cast_ofNat_Int, Int.reduceEq, Int.reduceNe, Int.reduceLT, Int.reduceLE, A3, R, A2]
  refine i_call H31 ⟨gt, bt, window, need, E, rfl, hT, hgt, ?_⟩
  try simp (disch := first | omega | (simp only [PL]; omega)) only [PS, P1, P2, P3, P4, P5, P6, P7, P8, PA, PB, PC, Nat.reduceAdd, Nat.reduceSub, Nat.reduceMul, Nat.reduceLeDiff, Nat.reduceEqDiff, Nat.succ_ne_self, reduceCtorEq, Int.reduceToNat, Int.cast_ofNat_Int, Int.reduceEq, Int.reduceNe, Int.reduceLT, Int.reduceLE]
  refine i_cond (fun c1 => ?_) (fun c1 => ?_)
  · try simp (disch := first | omega | (simp only [PL]; omega)) only [PS, P1, P2, P3, P4, P5, P6, P7, P8, PA, PB, PC, Nat.reduceAdd, Nat.reduceSub, Nat.reduceMul, Nat.reduceLeDiff, Nat.reduceEqDiff, Nat.succ_ne_self, reduceCtorEq, Int.reduceToNat, Int.cast_ofNat_Int, Int.reduceEq, Int.reduceNe, Int.reduceLT, Int.reduceLE]
    exact hK1 (by omega)
  have hlo : looked < E.length := by omega
  have hK := hK2 hlo
  clear hK1 hK2
  try simp (disch := first | omega | (simp only [PL]; omega)) only [PS, P1, P2, P3, P4, P5, P6, P7, P8, PA, PB, PC, Nat.reduceAdd, Nat.reduceSub, Nat.reduceMul, Nat.reduceLeDiff, Nat.reduceEqDiff, Nat.succ_ne_self, reduceCtorEq, Int.reduceToNat, Int.cast_ofNat_Int, Int.reduceEq, Int.reduceNe, Int.reduceLT, Int.reduceLE]
  refine i_newO fun b3 h1 hle1 hb3 ho3 => ?_
  have ho3' : objAt h1 ⟨b3, 0, none⟩ [.slice none 0 0] := ho3.le (fr_le _ _)
  have hRd : ∀ H, Heap.le h H → H.cell ((⟨bx, 0, none⟩ : Addr).add 0) = some (.int .i64 span) ∧ H.cell ((⟨bx, 0, none⟩ : Addr).add 1) = some (.int .i64 score) ∧ H.cell ((⟨bx, 0, none⟩ : Addr).add 2) = some (.pointer (some ⟨bt, 0, none⟩)) ∧ H.cell ((⟨bx, 0, none⟩ : Addr).add 3) = some pv ∧ Sl encM H pv ms := fun H hl => hI.read (hgx.trans hl)
  have A21 := (hRd h1 hle1).2.2.1
  try simp (disch := first | omega | (simp only [PL]; omega)) only [PS, P1, P2, P3, P4, P5, P6, P7, P8, PA, PB, PC, Nat.reduceAdd, Nat.reduceSub, Nat.reduceMul, Nat.reduceLeDiff, Nat.reduceEqDiff, Nat.succ_ne_self, reduceCtorEq, Int.reduceToNat, Int.cast_ofNat_Int, Int.reduceEq, Int.reduceNe, Int.reduceLT, Int.reduceLE, A21]
  refine i_call H54 ⟨_, rfl, fun b6 h2 hle2 ho6 => ?_⟩
  obtain ⟨mw, wkv, bs, ck, hmw, hMB, hnd, hkeys⟩ := hT.keys
  have hbsl : bs.length = wkv.length := by obtain ⟨_, _, _, h, _⟩ := hMB; exact h
  have hbsn : bs.Nodup := by obtain ⟨_, _, _, _, h, _⟩ := hMB; exact h
  have hwl : wkv.length = (tagsE E).length := by
    have e := nodup_len hnd (tagsE_nodup E) fun x => (hkeys x).trans (mem_tagsE E x).symm
    rwa [List.length_map] at e
  have hfl := flatT_len E hEr
  have htl2 : (tagsE E).length ≤ 1000000 := by have := tagsOfL_len (flatT E); unfold tagsE; omega
  have hle12 := hle1.trans hle2
  try simp (disch := first | omega | (simp only [PL]; omega)) only [PS, P1, P2, P3, P4, P5, P6, P7, P8, PA, PB, PC, Nat.reduceAdd, Nat.reduceSub, Nat.reduceMul, Nat.reduceLeDiff, Nat.reduceEqDiff, Nat.succ_ne_self, reduceCtorEq, Int.reduceToNat, Int.cast_ofNat_Int, Int.reduceEq, Int.reduceNe, Int.reduceLT, Int.reduceLE]
  refine i_rfn (ek := encKS) (ev := id) (c := ⟨b6, 0, none⟩) (a := ⟨bt, 0, none⟩) (kv := wkv) (bs := bs) (ck := ck) (mp := mw) rfl ((ho6.le (fr_le _ _)).rules.2.1 (by simp)) (hmw h2 (hgt.trans hle12))
    (fun dn G => Heap.le h G ∧ ∃ v l, objAt G ⟨b3, 0, none⟩ [v] ∧ SlB encT 1 G v l ∧ (∀ b, blkOf v = some b → h b = none ∧ b ≠ b3) ∧ Gath wkv bs dn l) ⟨hle12, .slice none 0 0, [], ho3'.le hle2, SlB.nil, by simp [blkOf], ⟨by simp, by simp, by simp⟩⟩ (fun dn G hJ => hMB.le (hgt.trans hJ.1)) ?_ ?_
  rotate_left
  · rintro dn G j b key val ⟨hG, v, l, hob, hSl, hvb, hga⟩ hdn hds hj hb hnb
    have hdl : dn.length ≤ bs.length := nodup_le hdn hds
    have hll := hga.2.1
    try simp (disch := first | omega | (simp only [PL]; omega)) only [PS, P1, P2, P3, P4, P5, P6, P7, P8, PA, PB, PC, Nat.reduceAdd, Nat.reduceSub, Nat.reduceMul, Nat.reduceLeDiff, Nat.reduceEqDiff, Nat.succ_ne_self, reduceCtorEq, Int.reduceToNat, Int.cast_ofNat_Int, Int.reduceEq, Int.reduceNe, Int.reduceLT, Int.reduceLE, rf_rules, encKS]
    refine i_call H66 ⟨key, rfl, fun G2 hle3 => ?_⟩
    try simp (disch := first | omega | (simp only [PL]; omega)) only [PS, P1, P2, P3, P4, P5, P6, P7, P8, PA, PB, PC, Nat.reduceAdd, Nat.reduceSub, Nat.reduceMul, Nat.reduceLeDiff, Nat.reduceEqDiff, Nat.succ_ne_self, reduceCtorEq, Int.reduceToNat, Int.cast_ofNat_Int, Int.reduceEq, Int.reduceNe, Int.reduceLT, Int.reduceLE]
    refine i_cond (fun c => ?_) (fun c => ?_)
    rotate_left
    · try simp (disch := first | omega | (simp only [PL]; omega)) only [PS, P1, P2, P3, P4, P5, P6, P7, P8, PA, PB, PC, Nat.reduceAdd, Nat.reduceSub, Nat.reduceMul, Nat.reduceLeDiff, Nat.reduceEqDiff, Nat.succ_ne_self, reduceCtorEq, Int.reduceToNat, Int.cast_ofNat_Int, Int.reduceEq, Int.reduceNe, Int.reduceLT, Int.reduceLE, rf_rules]
      exact ⟨hG.trans hle3, v, l, hob.le hle3, hSl.le hle3, hvb, hga.skip hj hb hbsn c⟩
    have B3 : G2.cell ⟨b3, 0, none⟩ = some v := (hob.le hle3).rules.2.1 (by simp)
    have O1 := hSl.one
    try simp (disch := first | omega | (simp only [PL]; omega)) only [PS, P1, P2, P3, P4, P5, P6, P7, P8, PA, PB, PC, Nat.reduceAdd, Nat.reduceSub, Nat.reduceMul, Nat.reduceLeDiff, Nat.reduceEqDiff, Nat.succ_ne_self, reduceCtorEq, Int.reduceToNat, Int.cast_ofNat_Int, Int.reduceEq, Int.reduceNe, Int.reduceLT, Int.reduceLE, B3]
    refine i_bslB encT 1 (fun _ => rfl) [key] rfl rfl (by simp [maxLen]) fun x1 b1 G3 hle4 hb1 hx1 hS3 => ?_
    have O2 := hS3.one
    have hle34 := hle3.trans hle4
    try simp (disch := first | omega | (simp only [PL]; omega)) only [PS, P1, P2, P3, P4, P5, P6, P7, P8, PA, PB, PC, Nat.reduceAdd, Nat.reduceSub, Nat.reduceMul, Nat.reduceLeDiff, Nat.reduceEqDiff, Nat.succ_ne_self, reduceCtorEq, Int.reduceToNat, Int.cast_ofNat_Int, Int.reduceEq, Int.reduceNe, Int.reduceLT, Int.reduceLE, O2.1, O2.2]
    refine i_appB (enc := encT) (sz := 1) (g := G3) (l := l) (l' := [key]) (fun _ => rfl) (by simp [encT, one]) (hSl.le hle34) (Heap.le.refl G3) (SlB.sl (enc := encT) (fun _ => rfl) (hS3.le (fr_le _ _))) (by simp; omega) fun v4 h4 g4 hS4 St4 e1 e2 e3 => ?_
    have hob4 : objAt h4 ⟨b3, 0, none⟩ [v] := (hob.le hle34).kept fun o ho => e3 _ _ ho fun e => (hvb _ e).2 rfl
    have hb3G : G3 b3 ≠ none := by obtain ⟨_, cc, tt, q, _⟩ := hob.le hle34; rw [q]; simp
    have hvb4 : ∀ b, blkOf v4 = some b → h b = none ∧ b ≠ b3 := by
      intro b hb
      rcases e2 b hb with h5 | h5
      · exact hvb b h5
      · exact ⟨le_none (hG.trans hle34) b h5, fun e => hb3G (e ▸ h5)⟩
    have hG4 : Heap.le h h4 := fun b o hb => e3 b o (hle34 b o (hG b o hb)) fun e => by rw [(hvb b e).1] at hb; cases hb
    have O4 := hS4.one
    try simp (disch := first | omega | (simp only [PL]; omega)) only [PS, P1, P2, P3, P4, P5, P6, P7, P8, PA, PB, PC, Nat.reduceAdd, Nat.reduceSub, Nat.reduceMul, Nat.reduceLeDiff, Nat.reduceEqDiff, Nat.succ_ne_self, reduceCtorEq, Int.reduceToNat, Int.cast_ofNat_Int, Int.reduceEq, Int.reduceNe, Int.reduceLT, Int.reduceLE, O4.1, O4.2]
    refine i_st hob4 0 1 (by rw [O4.2]; rfl) (by rw [O4.2]; simp [O4.1]) (by omega) (by simp) fun o7 hob8 _ => ?_
    have hob9 : objAt (h4.set b3 o7) ⟨b3, 0, none⟩ [v4] := by have := hob8 h4 rfl; simpa [O4.2] using this
    try simp (disch := first | omega | (simp only [PL]; omega)) only [PS, P1, P2, P3, P4, P5, P6, P7, P8, PA, PB, PC, Nat.reduceAdd, Nat.reduceSub, Nat.reduceMul, Nat.reduceLeDiff, Nat.reduceEqDiff, Nat.succ_ne_self, reduceCtorEq, Int.reduceToNat, Int.cast_ofNat_Int, Int.reduceEq, Int.reduceNe, Int.reduceLT, Int.reduceLE, rf_rules]
    have hb3h : h b3 = none := hb3
    refine ⟨but.le (b := b3) hG4 hb3h fun x hx => Heap.set_ne hx, v4, l ++ [key], hob9, (hS4.le St4.le).same fun b hb => Heap.set_ne (hvb4 b hb).2, hvb4, hga.take hj hb hbsn hnd hnb c⟩
  rintro dn G ⟨hG, v, l, hob, hSl, hvb, hga⟩ hdn hds hall
  have hdl : dn.length ≤ bs.length := nodup_le hdn hds
  have hll : l.length ≤ 1000000 := by have := hga.2.1; omega
  have hmem : ∀ t, t ∈ l ↔ 0 < kindOf t ∧ toldE E t := by
    intro t
    rw [hga.2.2 t, ← hkeys t]
    refine and_congr Iff.rfl ⟨fun ⟨j, b, u, q1, q2, q3⟩ => List.mem_map.2 ⟨_, List.mem_of_getElem? q1, rfl⟩, fun ht => ?_⟩
    obtain ⟨⟨k, u⟩, q1, rfl⟩ := List.mem_map.1 ht
    obtain ⟨j, hj, q2⟩ := List.getElem_of_mem q1
    have hj2 : j < bs.length := by omega
    exact ⟨j, bs[j], u, by rw [List.getElem?_eq_getElem hj, q2], by rw [List.getElem?_eq_getElem hj2], hall _ (List.getElem_mem hj2)⟩
  have B3 : G.cell ⟨b3, 0, none⟩ = some v := hob.rules.2.1 (by simp)
  try simp (disch := first | omega | (simp only [PL]; omega)) only [PS, P1, P2, P3, P4, P5, P6, P7, P8, PA, PB, PC, Nat.reduceAdd, Nat.reduceSub, Nat.reduceMul, Nat.reduceLeDiff, Nat.reduceEqDiff, Nat.succ_ne_self, reduceCtorEq, Int.reduceToNat, Int.cast_ofNat_Int, Int.reduceEq, Int.reduceNe, Int.reduceLT, Int.reduceLE, B3]
  refine i_call H67 ⟨v, l, rfl, hSl, by omega, fun H1 hS1 hk1 => ?_⟩
  have hordL := srt_ord hga.1
  have hmemL : ∀ t, t ∈ srt l ↔ 0 < kindOf t ∧ toldE E t := fun t => srt_mem.trans (hmem t)
  have hLl : (srt l).length ≤ 1000000 := by rw [srt_len]; exact hll
  generalize srt l = L at *
  have hH1 : Heap.le h H1 := fun b o hb => hk1 b o (hG b o hb) fun e => by rw [(hvb b e).1] at hb; cases hb
  have hob1 : objAt H1 ⟨b3, 0, none⟩ [v] := hob.kept fun o ho => hk1 _ _ ho fun e => (hvb _ e).2 rfl
  clear hk1 hSl hob B3 hga
  try simp (disch := first | omega | (simp only [PL]; omega)) only [PS, P1, P2, P3, P4, P5, P6, P7, P8, PA, PB, PC, Nat.reduceAdd, Nat.reduceSub, Nat.reduceMul, Nat.reduceLeDiff, Nat.reduceEqDiff, Nat.succ_ne_self, reduceCtorEq, Int.reduceToNat, Int.cast_ofNat_Int, Int.reduceEq, Int.reduceNe, Int.reduceLT, Int.reduceLE]
  refine i_mnew (ek := encKS) (ev := encKS) fun m H2 hm0 hle2' hmE => ?_
  have hmE2 := hmE.le (fr_le _ _)
  have hob2 := hob1.le hle2'
  have hS2 := hS1.le hle2'
  have hH2 := hH1.trans hle2'
  have hmh : h m = none := le_none hH1 m hm0
  have hmb3 : b3 ≠ m := by
    rintro rfl
    obtain ⟨_, cc, tt, q, _⟩ := hob1
    rw [q] at hm0; cases hm0
  have hvm : blkOf v ≠ some m := fun e => hS1.mem e hm0
  have B32 : ∀ H, objAt H ⟨b3, 0, none⟩ [v] → H.cell ⟨b3, 0, none⟩ = some v := fun H ho => ho.rules.2.1 (by simp)
  have B3 := B32 _ hob2
  have RL0 := (SlB.sl (enc := encT) (sz := 1) (fun _ => rfl) hS2).rules1 (fun t => .string (str t)) (fun _ => rfl) default
  have hin : ∀ s p, cand s p → 0 < togE window need E span s p looked → p ∈ L := by
    intro s p hc h0
    have := (togE_told hn1 h0).2
    obtain ⟨l, hl, hs⟩ := this
    exact (hmemL p).2 ⟨by have := hc.1; have := hc.2; omega, l, List.mem_of_mem_take hl, hs⟩
  try simp (disch := first | omega | (simp only [PL]; omega)) only [PS, P1, P2, P3, P4, P5, P6, P7, P8, PA, PB, PC, Nat.reduceAdd, Nat.reduceSub, Nat.reduceMul, Nat.reduceLeDiff, Nat.reduceEqDiff, Nat.succ_ne_self, reduceCtorEq, Int.reduceToNat, Int.cast_ofNat_Int, Int.reduceEq, Int.reduceNe, Int.reduceLT, Int.reduceLE, B3, RL0]
  refine i_meet_blk (fun env H => Heap.le h H ∧ (∃ kv bs ck, MapB encKS encKS H m kv bs ck ∧ KidsOk window need E span score looked L kv) ∧ env = [some (.pointer (some ⟨bx, 0, none⟩)), none, some (.int .i64 (looked : Nat)), some (.pointer (some ⟨b3, 0, none⟩)), none, some (.map (some m)), none, none, none, none, none, none, none, none, none, none, none, none, none, none, none, none, none, none, none, none, none, none, none, none, none, none, none, none, none, none, none, none, none, none, none, none]) ?_ ?_
  rotate_left
  · refine i_loop (fun i : Nat => [some (.pointer (some ⟨bx, 0, none⟩)), none, some (.int .i64 (looked : Nat)), some (.pointer (some ⟨b3, 0, none⟩)), none, some (.map (some m)), none, none, none, none, none, none, none, none, none, none, none, none, none, none, none, none, none, some v, some (.int .i64 L.length), some (.int .i64 (i : Nat)), none, none, none, none, none, none, none, none, none, none, none, none, none, none, none, none])
      (fun i H => i ≤ L.length ∧ Heap.le h H ∧ objAt H ⟨b3, 0, none⟩ [v] ∧ SlB encT 1 H v L ∧ ∃ kv bs ck, MapB encKS encKS H m kv bs ck ∧ KidsOk window need E span score looked (L.take i) kv) (fun i => L.length - i) 0 (by try simp only [Pe, and_true, true_and, and_self]; rfl) ⟨by omega, hH2, hob2, hS2, [], [], 0, hmE2, fun s => by simp [look_nil]⟩ ?_
    rintro i H ⟨hi, hH, hob, hS, kv, bs', ck', hmp, hkid⟩
    have RL := (SlB.sl (enc := encT) (sz := 1) (fun _ => rfl) hS).rules1 (fun t => .string (str t)) (fun _ => rfl) default
    have hw : IntKind.i64.wrap ((i : Int) + 1) = ((i + 1 : Nat) : Int) := by rw [w64 (by omega) (by omega)]; omega
    try simp (disch := first | omega | (simp only [PL]; omega)) only [PS, P1, P2, P3, P4, P5, P6, P7, P8, PA, PB, PC, Nat.reduceAdd, Nat.reduceSub, Nat.reduceMul, Nat.reduceLeDiff, Nat.reduceEqDiff, Nat.succ_ne_self, reduceCtorEq, Int.reduceToNat, Int.cast_ofNat_Int, Int.reduceEq, Int.reduceNe, Int.reduceLT, Int.reduceLE]
    refine i_cond (fun c => ?_) (fun c => ?_)
    rotate_left
    · have : i = L.length := by omega
      subst this
      rw [List.take_length] at hkid
      try simp (disch := first | omega | (simp only [PL]; omega)) only [PS, P1, P2, P3, P4, P5, P6, P7, P8, PA, PB, PC, Nat.reduceAdd, Nat.reduceSub, Nat.reduceMul, Nat.reduceLeDiff, Nat.reduceEqDiff, Nat.succ_ne_self, reduceCtorEq, Int.reduceToNat, Int.cast_ofNat_Int, Int.reduceEq, Int.reduceNe, Int.reduceLT, Int.reduceLE]
      exact k_meet _ (by try simp only [Pe, and_true, true_and, and_self]) ⟨hH, ⟨kv, bs', ck', hmp, hkid⟩, rfl⟩
    have hi2 : i < L.length := by omega
    have hcm := (hmemL _).1 (getD_mem default hi2)
    have hnx : L.take (i + 1) = L.take i ++ [L.getD i default] := take_succ_d default hi2
    try simp (disch := first | omega | (simp only [PL]; omega)) only [PS, P1, P2, P3, P4, P5, P6, P7, P8, PA, PB, PC, Nat.reduceAdd, Nat.reduceSub, Nat.reduceMul, Nat.reduceLeDiff, Nat.reduceEqDiff, Nat.succ_ne_self, reduceCtorEq, Int.reduceToNat, Int.cast_ofNat_Int, Int.reduceEq, Int.reduceNe, Int.reduceLT, Int.reduceLE, RL]
    generalize hch : L.getD i default = ch at *
    refine i_meet_cond (fun env H' => H' = H ∧ env = [some (.pointer (some ⟨bx, 0, none⟩)), none, some (.int .i64 (looked : Nat)), some (.pointer (some ⟨b3, 0, none⟩)), none, some (.map (some m)), some (.string (str ch)), some (.string (str (wasE window need E span score ch looked))), none, none, none, none, none, none, none, none, none, none, none, none, none, none, none, some v, some (.int .i64 L.length), some (.int .i64 (i : Nat)), none, none, none, none, none, none, none, none, none, none, none, none, none, none, none, none]) ?_ ?_
    rotate_left
    · obtain ⟨_, _, _, A3H, hPS⟩ := hRd H hH
      have RP := hPS.rules1 mapV (fun _ => rfl) 0
      rw [hI.len] at RP
      cases looked with
      | zero =>
        try simp (disch := first | omega | (simp only [PL]; omega)) only [PS, P1, P2, P3, P4, P5, P6, P7, P8, PA, PB, PC, Nat.reduceAdd, Nat.reduceSub, Nat.reduceMul, Nat.reduceLeDiff, Nat.reduceEqDiff, Nat.succ_ne_self, reduceCtorEq, Int.reduceToNat, Int.cast_ofNat_Int, Int.reduceEq, Int.reduceNe, Int.reduceLT, Int.reduceLE]
        exact k_meet _ (by try simp only [Pe, and_true, true_and, and_self]; rfl) ⟨rfl, rfl⟩
      | succ e1 =>
        have hm := ((hI.maps e1 (by omega)).le (hI.le0.trans (hgx.trans hH))).lkp ch
        have he1 : IntKind.i64.wrap (((e1 + 1 : Nat) : Int) - 1) = ((e1 : Nat) : Int) := by rw [w64 (by omega) (by omega)]; omega
        have hp1 : ((0 : Int) < ((e1 + 1 : Nat) : Int)) = True := by rw [eq_iff_iff]; simp
        try simp (disch := first | omega | (simp only [PL]; omega)) only [PS, P1, P2, P3, P4, P5, P6, P7, P8, PA, PB, PC, Nat.reduceAdd, Nat.reduceSub, Nat.reduceMul, Nat.reduceLeDiff, Nat.reduceEqDiff, Nat.succ_ne_self, reduceCtorEq, Int.reduceToNat, Int.cast_ofNat_Int, Int.reduceEq, Int.reduceNe, Int.reduceLT, Int.reduceLE, hp1, A3H, he1, RP, mapV, hm]
        exact k_meet _ (by try simp only [Pe, and_true, true_and, and_self]; rfl) ⟨rfl, rfl⟩
    rintro env H' ⟨rfl, rfl⟩
    obtain ⟨_, A1H, _, _, _⟩ := hRd H' hH
    have B3H := B32 H' hob
    have hsc : IntKind.i64.wrap ((score : Int) - 1) = (score : Int) - 1 := by rw [w64 (by omega) (by omega)]
    generalize hwas : wasE window need E span score ch looked = was at *
    try simp (disch := first | omega | (simp only [PL]; omega)) only [PS, P1, P2, P3, P4, P5, P6, P7, P8, PA, PB, PC, Nat.reduceAdd, Nat.reduceSub, Nat.reduceMul, Nat.reduceLeDiff, Nat.reduceEqDiff, Nat.succ_ne_self, reduceCtorEq, Int.reduceToNat, Int.cast_ofNat_Int, Int.reduceEq, Int.reduceNe, Int.reduceLT, Int.reduceLE, A1H, hsc, B3H, RL]
    refine i_loop (fun x : Nat × List UInt8 × Int => [some (.pointer (some ⟨bx, 0, none⟩)), none, some (.int .i64 (looked : Nat)), some (.pointer (some ⟨b3, 0, none⟩)), none, some (.map (some m)), some (.string (str ch)), some (.string (str was)), some (.string (str x.2.1)), some (.int .i64 x.2.2), none, none, none, none, none, none, none, none, none, none, none, none, none, some v, some (.int .i64 L.length), some (.int .i64 (i : Nat)), none, none, some v, some (.int .i64 L.length), some (.int .i64 (x.1 : Nat)), none, none, none, none, none, none, none, none, none, none, none])
      (fun x G => x.1 ≤ L.length ∧ Heap.le H' G ∧ FoldP (fun p => togE window need E span ch p looked) score ch was (L.take x.1) x.2.1 x.2.2) (fun x => L.length - x.1) (0, [], (score : Int) - 1) (by try simp only [Pe, and_true, true_and, and_self]; rfl) ⟨by dsimp only; omega, Heap.le.refl H', FoldP.nil⟩ ?_
    rintro ⟨k, best, most⟩ G1 ⟨hk, hHG, hF⟩
    dsimp only at hk hF ⊢
    have RLG := (SlB.sl (enc := encT) (sz := 1) (fun _ => rfl) (hS.le hHG)).rules1 (fun t => .string (str t)) (fun _ => rfl) default
    have hwk : IntKind.i64.wrap ((k : Int) + 1) = ((k + 1 : Nat) : Int) := by rw [w64 (by omega) (by omega)]; omega
    try simp (disch := first | omega | (simp only [PL]; omega)) only [PS, P1, P2, P3, P4, P5, P6, P7, P8, PA, PB, PC, Nat.reduceAdd, Nat.reduceSub, Nat.reduceMul, Nat.reduceLeDiff, Nat.reduceEqDiff, Nat.succ_ne_self, reduceCtorEq, Int.reduceToNat, Int.cast_ofNat_Int, Int.reduceEq, Int.reduceNe, Int.reduceLT, Int.reduceLE]
    refine i_cond (fun c2 => ?_) (fun c2 => ?_)
    rotate_left
    · have : k = L.length := by omega
      subst this
      rw [List.take_length] at hF
      have hpar : parE window need E span score ch looked = best := par_of (by rw [hwas]; exact hF.par hc1 (hin ch))
      have hKid : ∀ kv', (∀ s, look kv' s = if s = ch ∧ best ≠ [] then some best else look kv s) → KidsOk window need E span score looked (L.take (i + 1)) kv' := by
        intro kv' h' s
        rw [h' s, hnx, hkid s]
        by_cases hs : s = ch
        · subst hs
          rw [hpar]
          by_cases hbn : best = []
          · simp [hbn]
          · simp [hbn]
        · simp [hs]
      try simp (disch := first | omega | (simp only [PL]; omega)) only [PS, P1, P2, P3, P4, P5, P6, P7, P8, PA, PB, PC, Nat.reduceAdd, Nat.reduceSub, Nat.reduceMul, Nat.reduceLeDiff, Nat.reduceEqDiff, Nat.succ_ne_self, reduceCtorEq, Int.reduceToNat, Int.cast_ofNat_Int, Int.reduceEq, Int.reduceNe, Int.reduceLT, Int.reduceLE]
      refine i_cond (fun c3 => ?_) (fun c3 => ?_)
      · try simp (disch := first | omega | (simp only [PL]; omega)) only [PS, P1, P2, P3, P4, P5, P6, P7, P8, PA, PB, PC, Nat.reduceAdd, Nat.reduceSub, Nat.reduceMul, Nat.reduceLeDiff, Nat.reduceEqDiff, Nat.succ_ne_self, reduceCtorEq, Int.reduceToNat, Int.cast_ofNat_Int, Int.reduceEq, Int.reduceNe, Int.reduceLT, Int.reduceLE]
        refine i_mupd (ek := encKS) (ev := encKS) (hmp.le hHG) (Heap.le.refl G1) ch best fun o bs'' ck'' hm' St' _ => ?_
        try simp (disch := first | omega | (simp only [PL]; omega)) only [PS, P1, P2, P3, P4, P5, P6, P7, P8, PA, PB, PC, Nat.reduceAdd, Nat.reduceSub, Nat.reduceMul, Nat.reduceLeDiff, Nat.reduceEqDiff, Nat.succ_ne_self, reduceCtorEq, Int.reduceToNat, Int.cast_ofNat_Int, Int.reduceEq, Int.reduceNe, Int.reduceLT, Int.reduceLE, hw]
        refine k_loop (i + 1) (by omega) (by try simp only [Pe, and_true, true_and, and_self]) ⟨by omega, but.le (b := m) (hH.trans hHG) hmh fun x hx => Heap.set_ne hx, (hob.le hHG).nset hmb3, (hS.le hHG).same fun b hb => Heap.set_ne fun e => hvm (e ▸ hb), _, _, _, hm', hKid _ fun s => ?_⟩
        rw [look_upd]
        by_cases hs : s = ch
        · rw [if_pos hs, if_pos ⟨hs, c3⟩]
        · rw [if_neg hs, if_neg fun h => hs h.1]
      · try simp (disch := first | omega | (simp only [PL]; omega)) only [PS, P1, P2, P3, P4, P5, P6, P7, P8, PA, PB, PC, Nat.reduceAdd, Nat.reduceSub, Nat.reduceMul, Nat.reduceLeDiff, Nat.reduceEqDiff, Nat.succ_ne_self, reduceCtorEq, Int.reduceToNat, Int.cast_ofNat_Int, Int.reduceEq, Int.reduceNe, Int.reduceLT, Int.reduceLE, hw]
        exact k_loop (i + 1) (by omega) (by try simp only [Pe, and_true, true_and, and_self]) ⟨by omega, hH.trans hHG, hob.le hHG, hS.le hHG, _, _, _, hmp.le hHG, hKid _ fun s => by rw [if_neg fun h => c3 h.2]⟩
    have hk2 : k < L.length := by omega
    have hpm := (hmemL _).1 (getD_mem default hk2)
    have hnk : L.take (k + 1) = L.take k ++ [L.getD k default] := take_succ_d default hk2
    have hordk := ordT_take hordL hk2
    try simp (disch := first | omega | (simp only [PL]; omega)) only [PS, P1, P2, P3, P4, P5, P6, P7, P8, PA, PB, PC, Nat.reduceAdd, Nat.reduceSub, Nat.reduceMul, Nat.reduceLeDiff, Nat.reduceEqDiff, Nat.succ_ne_self, reduceCtorEq, Int.reduceToNat, Int.cast_ofNat_Int, Int.reduceEq, Int.reduceNe, Int.reduceLT, Int.reduceLE, RLG]
    generalize hp : L.getD k default = p at *
    refine i_call H66 ⟨p, rfl, fun G2 hle2' => ?_⟩
    try simp (disch := first | omega | (simp only [PL]; omega)) only [PS, P1, P2, P3, P4, P5, P6, P7, P8, PA, PB, PC, Nat.reduceAdd, Nat.reduceSub, Nat.reduceMul, Nat.reduceLeDiff, Nat.reduceEqDiff, Nat.succ_ne_self, reduceCtorEq, Int.reduceToNat, Int.cast_ofNat_Int, Int.reduceEq, Int.reduceNe, Int.reduceLT, Int.reduceLE]
    refine i_call H66 ⟨ch, rfl, fun G3 hle3' => ?_⟩
    have hHG3 := hHG.trans (hle2'.trans hle3')
    obtain ⟨A03, A13, A23, _, _⟩ := hRd G3 (hH.trans hHG3)
    try simp (disch := first | omega | (simp only [PL]; omega)) only [PS, P1, P2, P3, P4, P5, P6, P7, P8, PA, PB, PC, Nat.reduceAdd, Nat.reduceSub, Nat.reduceMul, Nat.reduceLeDiff, Nat.reduceEqDiff, Nat.succ_ne_self, reduceCtorEq, Int.reduceToNat, Int.cast_ofNat_Int, Int.reduceEq, Int.reduceNe, Int.reduceLT, Int.reduceLE]
    refine i_cond (fun c4 => ?_) (fun c4 => ?_)
    · try simp (disch := first | omega | (simp only [PL]; omega)) only [PS, P1, P2, P3, P4, P5, P6, P7, P8, PA, PB, PC, Nat.reduceAdd, Nat.reduceSub, Nat.reduceMul, Nat.reduceLeDiff, Nat.reduceEqDiff, Nat.succ_ne_self, reduceCtorEq, Int.reduceToNat, Int.cast_ofNat_Int, Int.reduceEq, Int.reduceNe, Int.reduceLT, Int.reduceLE, hwk]
      refine k_loop (k + 1, best, most) (by dsimp only; omega) (by dsimp only; try simp only [Pe, and_true, true_and, and_self]) ⟨by dsimp only; omega, hHG3, ?_⟩
      dsimp only
      rw [hnk]
      exact hF.skip fun hc => by have := hc.2; omega
    have hcd : cand ch p := ⟨hcm.1, by omega⟩
    try simp (disch := first | omega | (simp only [PL]; omega)) only [PS, P1, P2, P3, P4, P5, P6, P7, P8, PA, PB, PC, Nat.reduceAdd, Nat.reduceSub, Nat.reduceMul, Nat.reduceLeDiff, Nat.reduceEqDiff, Nat.succ_ne_self, reduceCtorEq, Int.reduceToNat, Int.cast_ofNat_Int, Int.reduceEq, Int.reduceNe, Int.reduceLT, Int.reduceLE]
    refine i_call H68 ⟨bx, gt, bt, window, need, E, ch, p, looked, span, rfl, hT, hgt.trans (hH.trans hHG3), A03, A23, hn1, hEl, hlo, hs1, hs2, ?_⟩
    try simp (disch := first | omega | (simp only [PL]; omega)) only [PS, P1, P2, P3, P4, P5, P6, P7, P8, PA, PB, PC, Nat.reduceAdd, Nat.reduceSub, Nat.reduceMul, Nat.reduceLeDiff, Nat.reduceEqDiff, Nat.succ_ne_self, reduceCtorEq, Int.reduceToNat, Int.cast_ofNat_Int, Int.reduceEq, Int.reduceNe, Int.reduceLT, Int.reduceLE, A13]
    refine i_cond (fun c5 => ?_) (fun c5 => ?_)
    · try simp (disch := first | omega | (simp only [PL]; omega)) only [PS, P1, P2, P3, P4, P5, P6, P7, P8, PA, PB, PC, Nat.reduceAdd, Nat.reduceSub, Nat.reduceMul, Nat.reduceLeDiff, Nat.reduceEqDiff, Nat.succ_ne_self, reduceCtorEq, Int.reduceToNat, Int.cast_ofNat_Int, Int.reduceEq, Int.reduceNe, Int.reduceLT, Int.reduceLE, hwk]
      refine k_loop (k + 1, p, (togE window need E span ch p looked : Nat)) (by dsimp only; omega) (by dsimp only; try simp only [Pe, and_true, true_and, and_self]) ⟨by dsimp only; omega, hHG3, ?_⟩
      dsimp only
      rw [hnk]
      exact hF.take hcd hordk hc1 (c5.imp id fun ⟨⟨a, b⟩, c⟩ => ⟨a, b, c⟩)
    · try simp (disch := first | omega | (simp only [PL]; omega)) only [PS, P1, P2, P3, P4, P5, P6, P7, P8, PA, PB, PC, Nat.reduceAdd, Nat.reduceSub, Nat.reduceMul, Nat.reduceLeDiff, Nat.reduceEqDiff, Nat.succ_ne_self, reduceCtorEq, Int.reduceToNat, Int.cast_ofNat_Int, Int.reduceEq, Int.reduceNe, Int.reduceLT, Int.reduceLE, hwk]
      refine k_loop (k + 1, best, most) (by dsimp only; omega) (by dsimp only; try simp only [Pe, and_true, true_and, and_self]) ⟨by dsimp only; omega, hHG3, ?_⟩
      dsimp only
      rw [hnk]
      exact hF.leave hcd hordk fun hx => c5 (hx.imp id fun ⟨a, b, c⟩ => ⟨⟨a, b⟩, c⟩)
  rintro env H ⟨hH, ⟨kv, bs', ck', hmp, hkid⟩, rfl⟩
  obtain ⟨_, _, _, A3H, hPSH⟩ := hRd H hH
  have hMapS : ∀ G, (∀ o, H m = some o → G m = some o) → MapS G m fun s => parE window need E span score s looked := by
    intro G hG
    obtain ⟨es, q1, q2⟩ := hmp
    refine ⟨kv, bs', ck', ⟨es, hG _ q1, q2⟩, fun s => ?_⟩
    rw [hkid s]
    by_cases hp : parE window need E span score s looked = []
    · rw [if_neg fun h => h.2 hp, if_pos hp]
    · have hsL : s ∈ L := by
        refine (hmemL s).2 (Classical.byContradiction fun hc => hp (par_nil hn1 hc1 ?_))
        by_cases hk : kindOf s ≤ 0
        · exact .inl hk
        · refine .inr fun ht => hc ⟨by omega, ?_⟩
          obtain ⟨l, hl, hs⟩ := ht
          exact ⟨l, List.mem_of_mem_take hl, hs⟩
      rw [if_neg hp, if_pos ⟨hsL, hp⟩]
  have hHm : H m ≠ none := by obtain ⟨es, q1, q2⟩ := hmp; rw [q1]; simp
  have hpl : ms.length = looked := hI.len
  try simp (disch := first | omega | (simp only [PL]; omega)) only [PS, P1, P2, P3, P4, P5, P6, P7, P8, PA, PB, PC, Nat.reduceAdd, Nat.reduceSub, Nat.reduceMul, Nat.reduceLeDiff, Nat.reduceEqDiff, Nat.succ_ne_self, reduceCtorEq, Int.reduceToNat, Int.cast_ofNat_Int, Int.reduceEq, Int.reduceNe, Int.reduceLT, Int.reduceLE, A3H]
  refine i_bslB encM 1 (fun _ => rfl) [m] rfl rfl (by simp [maxLen]) fun x1 b1 H5 hle5 hb1 hx1 hS5 => ?_
  have O2 := hS5.one
  have OP := hI.sl.one
  try simp (disch := first | omega | (simp only [PL]; omega)) only [PS, P1, P2, P3, P4, P5, P6, P7, P8, PA, PB, PC, Nat.reduceAdd, Nat.reduceSub, Nat.reduceMul, Nat.reduceLeDiff, Nat.reduceEqDiff, Nat.succ_ne_self, reduceCtorEq, Int.reduceToNat, Int.cast_ofNat_Int, Int.reduceEq, Int.reduceNe, Int.reduceLT, Int.reduceLE, O2.1, O2.2, OP.1, OP.2]
  have hHH5 := hH.trans hle5
  refine i_appB (enc := encM) (sz := 1) (g := H5) (l := ms) (l' := [m]) (fun _ => rfl) (by simp [encM, mapV, one]) (hI.sl.le (hgx.trans hHH5)) (Heap.le.refl H5) (SlB.sl (enc := encM) (fun _ => rfl) (hS5.le (fr_le _ _))) (by simp; omega) fun pv' H6 g6 hS6 St6 e1 e2 e3 => ?_
  have O6 := hS6.one
  have hbxp : blkOf pv ≠ some bx := fun e => (hI.ns _ e).2 rfl
  have hob6 : objAt H6 ⟨bx, 0, none⟩ [.int .i64 span, .int .i64 score, .pointer (some ⟨bt, 0, none⟩), pv] := (hI.obj.le (hgx.trans hHH5)).kept fun o ho => e3 _ _ ho hbxp
  try simp (disch := first | omega | (simp only [PL]; omega)) only [PS, P1, P2, P3, P4, P5, P6, P7, P8, PA, PB, PC, Nat.reduceAdd, Nat.reduceSub, Nat.reduceMul, Nat.reduceLeDiff, Nat.reduceEqDiff, Nat.succ_ne_self, reduceCtorEq, Int.reduceToNat, Int.cast_ofNat_Int, Int.reduceEq, Int.reduceNe, Int.reduceLT, Int.reduceLE, O6.1, O6.2]
  refine i_st hob6 3 1 (by rw [O6.2]; rfl) (by rw [O6.2]; simp [O6.1]) (by omega) (by simp) fun o7 hob8 _ => ?_
  have hob9 : objAt (H6.set bx o7) ⟨bx, 0, none⟩ [.int .i64 span, .int .i64 score, .pointer (some ⟨bt, 0, none⟩), pv'] := by have := hob8 H6 rfl; simpa [O6.2] using this
  have hbx5 : H5 bx ≠ none := by obtain ⟨_, cc, tt, q, _⟩ := hI.obj.le (hgx.trans hHH5); rw [q]; simp
  have hm5 : H5 m ≠ none := by
    cases e : H m with
    | none => exact absurd e hHm
    | some o => rw [hle5 _ _ e]; simp
  have hbxh : h bx ≠ none := by obtain ⟨_, cc, tt, q, _⟩ := hI.obj.le hgx; rw [q]; simp
  have hmx : m ≠ bx := by rintro rfl; exact hbxh hmh
  have hpvm : blkOf pv ≠ some m := fun e => (hI.sl.le hgx).mem e hmh
  have hpx : ∀ b, blkOf pv' = some b → b ≠ bx ∧ b ≠ m ∧ (blkOf pv = some b ∨ h b = none) := by
    intro b hb
    rcases e2 b hb with h5 | h5
    · exact ⟨(hI.ns b h5).2, fun e => hpvm (e ▸ h5), .inl h5⟩
    · exact ⟨fun e => hbx5 (e ▸ h5), fun e => hm5 (e ▸ h5), .inr (le_none hHH5 b h5)⟩
  obtain ⟨gx', hSt, hIn⟩ := InO.next (H3 := H6.set bx o7) (pv' := pv') hI hgx hmh hlo
    (fun b o hb h1 h2 => by rw [Heap.set_ne h1]; exact e3 b o (hHH5 b o hb) h2) hob9
    ((hS6.le St6.le).same fun b hb => Heap.set_ne (hpx b hb).1)
    (hMapS _ fun o ho => by rw [Heap.set_ne hmx]; exact e3 m o (hle5 m o ho) hpvm)
    (fun e => (hpx m e).2.1 rfl) fun b hb => (hpx b hb).2.2
  try simp (disch := first | omega | (simp only [PL]; omega)) only [PS, P1, P2, P3, P4, P5, P6, P7, P8, PA, PB, PC, Nat.reduceAdd, Nat.reduceSub, Nat.reduceMul, Nat.reduceLeDiff, Nat.reduceEqDiff, Nat.succ_ne_self, reduceCtorEq, Int.reduceToNat, Int.cast_ofNat_Int, Int.reduceEq, Int.reduceNe, Int.reduceLT, Int.reduceLE]
  exact hK gx' _ hSt hIn
end Go.Cw
namespace Go.Cw
open Go

def tagA : List UInt8 := bytesOf ⟨1, 0, 0, 0, 0, 0⟩
def tagB : List UInt8 := bytesOf ⟨2, 0, 0, 0, 0, 0⟩
def epAB : List Si := [⟨0, 0, 0, tagA⟩, ⟨0, 0, 0, tagB⟩]
theorem kind_tagA : kindOf tagA = 1 := by decide +kernel
theorem kind_tagB : kindOf tagB = 2 := by decide +kernel
theorem tog_AB : togE 1 1 [epAB] 1 tagA tagB 0 = 1 := by decide +kernel
theorem par_AB : parE 1 1 [epAB] 1 1 tagA 0 = tagB := by
  refine par_of (.inr ⟨1, Nat.le_refl 1, ⟨by rw [kind_tagA]; omega, by rw [kind_tagA, kind_tagB]; omega⟩, tog_AB, fun p _ => togE_span, .inr ⟨fun ⟨h, _⟩ => h.ne rfl, fun p hp ht => .inl ?_⟩⟩)
  obtain ⟨l, hl, s, hs, hst⟩ := (togE_told (Nat.le_refl 1) (show 0 < togE 1 1 [epAB] 1 tagA p 0 by omega)).2
  simp only [List.take_succ_cons, List.take_zero, List.mem_singleton] at hl
  subst hl
  simp only [epAB, List.mem_cons, List.not_mem_nil, or_false] at hs
  rcases hs with rfl | rfl
  · subst hst
    have := hp.2
    dsimp only at this
    omega
  · exact hst.symm
theorem errE_AB : errE epAB = 0 := by decide +kernel
theorem addE_AB : addE [] epAB = [epAB] := by
  unfold addE
  rw [if_pos (by unfold isGood epAB; intro s hs; simp only [List.mem_cons, List.not_mem_nil, or_false] at hs; rcases hs with rfl | rfl <;> simp [Si.bad])]
  rfl
theorem disj_fr_of {g h h' : Heap} (hg : Heap.le g h) : disj g (fr h h') := by
  intro b hb
  cases e : g b with
  | none => exact absurd e hb
  | some o => exact fr_none (hg b o e)
def S42 : Spec := fun args h K => args = [] ∧ ∀ h', Heap.le h h' → K (.bool true) h'
theorem F42_ok {N : Num} {Γ : Ctx} [GoodC Γ] (H28 : Sat (S28 N) (Γ 28)) (H65 : Sat S65 (Γ 65)) (H44 : Sat (S44 N) (Γ 44)) (H29 : Sat (S29 N) (Γ 29)) (H46 : Sat S46 (Γ 46)) (H49 : Sat (S49 N) (Γ 49)) (H19 : Sat (S19 N) (Γ 19)) (H47 : Sat S47 (Γ 47)) : Sat S42 (SF N Γ F42) := by
  rintro _ h K ⟨rfl, hK⟩
  refine i_fun rfl ?_
  simp only [F42, env0, List.map, List.length, List.replicate, List.cons_append, List.nil_append, Nat.reduceSub, Nat.reduceAdd]
  have e1 : (1 : Int).toNat = 1 := rfl
  try simp (disch := first | omega | (simp only [PL]; omega)) only [PS, P1, P2, P3, P4, P5, P6, P7, P8, PA, PB, PC, Nat.reduceAdd, Nat.reduceSub, Nat.reduceMul, Nat.reduceLeDiff, Nat.reduceEqDiff, Nat.succ_ne_self, reduceCtorEq, Int.reduceToNat, Int.cast_ofNat_Int, Int.reduceEq, Int.reduceNe, Int.reduceLT, Int.reduceLE]
  refine i_call H28 ⟨1, 1, rfl, fun hb => absurd hb (by decide), fun _ bt h1 hbt hle1 hT => ?_⟩
  rw [e1] at hT
  try simp (disch := first | omega | (simp only [PL]; omega)) only [PS, P1, P2, P3, P4, P5, P6, P7, P8, PA, PB, PC, Nat.reduceAdd, Nat.reduceSub, Nat.reduceMul, Nat.reduceLeDiff, Nat.reduceEqDiff, Nat.succ_ne_self, reduceCtorEq, Int.reduceToNat, Int.cast_ofNat_Int, Int.reduceEq, Int.reduceNe, Int.reduceLT, Int.reduceLE]
  refine i_call H65 ⟨⟨1, 0, 0, 0, 0, 0⟩, ⟨20, 6, 6, 1⟩, rfl, rfl, by dsimp only; omega, by dsimp only; omega, by dsimp only; omega, by dsimp only; omega, by dsimp only; omega, by dsimp only; omega, by dsimp only; omega, by dsimp only; omega, by dsimp only; omega, by dsimp only; omega, fun h2 hle2 => ?_⟩
  rw [show bytesOf ⟨1, 0, 0, 0, 0, 0⟩ = tagA from rfl]
  try simp (disch := first | omega | (simp only [PL]; omega)) only [PS, P1, P2, P3, P4, P5, P6, P7, P8, PA, PB, PC, Nat.reduceAdd, Nat.reduceSub, Nat.reduceMul, Nat.reduceLeDiff, Nat.reduceEqDiff, Nat.succ_ne_self, reduceCtorEq, Int.reduceToNat, Int.cast_ofNat_Int, Int.reduceEq, Int.reduceNe, Int.reduceLT, Int.reduceLE]
  refine i_call H65 ⟨⟨2, 0, 0, 0, 0, 0⟩, ⟨20, 6, 6, 1⟩, rfl, rfl, by dsimp only; omega, by dsimp only; omega, by dsimp only; omega, by dsimp only; omega, by dsimp only; omega, by dsimp only; omega, by dsimp only; omega, by dsimp only; omega, by dsimp only; omega, by dsimp only; omega, fun h3 hle3 => ?_⟩
  rw [show bytesOf ⟨2, 0, 0, 0, 0, 0⟩ = tagB from rfl]
  have hle13 := hle1.trans (hle2.trans hle3)
  have hgt3 : Heap.le (fr h h1) h3 := (fr_le h h1).trans (hle2.trans hle3)
  try simp (disch := first | omega | (simp only [PL]; omega)) only [PS, P1, P2, P3, P4, P5, P6, P7, P8, PA, PB, PC, Nat.reduceAdd, Nat.reduceSub, Nat.reduceMul, Nat.reduceLeDiff, Nat.reduceEqDiff, Nat.succ_ne_self, reduceCtorEq, Int.reduceToNat, Int.cast_ofNat_Int, Int.reduceEq, Int.reduceNe, Int.reduceLT, Int.reduceLE]
  refine i_call H44 ⟨bt, 1, 1, 1, 1, rfl, fun hb => absurd hb (by unfold inBad; omega), fun _ bx h4 hbx hle4 hI => ?_⟩
  rw [e1] at hI
  try simp (disch := first | omega | (simp only [PL]; omega)) only [PS, P1, P2, P3, P4, P5, P6, P7, P8, PA, PB, PC, Nat.reduceAdd, Nat.reduceSub, Nat.reduceMul, Nat.reduceLeDiff, Nat.reduceEqDiff, Nat.succ_ne_self, reduceCtorEq, Int.reduceToNat, Int.cast_ofNat_Int, Int.reduceEq, Int.reduceNe, Int.reduceLT, Int.reduceLE]
  refine i_bslB Si.enc 4 Si.enc_len epAB rfl rfl (by simp [maxLen, epAB]) fun v b1 h5 hle5 hb1 hv1 hS1 => ?_
  have O1 := hS1.one
  have hle35 := hle4.trans hle5
  try simp (disch := first | omega | (simp only [PL]; omega)) only [PS, P1, P2, P3, P4, P5, P6, P7, P8, PA, PB, PC, Nat.reduceAdd, Nat.reduceSub, Nat.reduceMul, Nat.reduceLeDiff, Nat.reduceEqDiff, Nat.succ_ne_self, reduceCtorEq, Int.reduceToNat, Int.cast_ofNat_Int, Int.reduceEq, Int.reduceNe, Int.reduceLT, Int.reduceLE, O1.1, O1.2]
  refine i_call H29 (S29_all (SlB.sl Si.enc_len (hS1.le (fr_le _ _))) hT (hgt3.trans hle35) ⟨by omega, by omega, by simp, by simp⟩ (by simp) (by simp [epAB]) fun gt h6 hS6 hT6 => ?_)
  rw [errE_AB]
  rw [addE_AB] at hT6
  have hgx5 : Heap.le (fr h3 h4) h5 := (fr_le h3 h4).trans hle5
  have hdx : disj (fr h3 h4) (fr h h1) := (disj_fr_of hgt3).sym
  obtain ⟨kx1, kx2⟩ := hS6.keep hgx5 hdx
  obtain ⟨kh1, kh2⟩ := hS6.keep (f := h) (hle13.trans hle35) (disj_fr_of (Heap.le.refl h))
  have hdxh : disj h (fr h3 h4) := disj_fr_of hle13
  try simp (disch := first | omega | (simp only [PL]; omega)) only [PS, P1, P2, P3, P4, P5, P6, P7, P8, PA, PB, PC, Nat.reduceAdd, Nat.reduceSub, Nat.reduceMul, Nat.reduceLeDiff, Nat.reduceEqDiff, Nat.succ_ne_self, reduceCtorEq, Int.reduceToNat, Int.cast_ofNat_Int, Int.reduceEq, Int.reduceNe, Int.reduceLT, Int.reduceLE, errV_zero]
  refine i_call H46 ⟨fr h3 h4, gt, bx, bt, 1, 1, [epAB], 1, 1, 0, rfl, hI _, kx1, hT6, hS6.le, kx2.sym, by omega, by simp, by simp [epAB], by omega, by omega, by omega, by omega, fun h => absurd h (by simp), fun _ gx h7 hS7 hI7 => ?_⟩
  obtain ⟨kt1, kt2⟩ := hS7.keep hS6.le kx2.sym
  obtain ⟨kf1, kf2⟩ := hS7.keep kh1 hdxh
  try simp (disch := first | omega | (simp only [PL]; omega)) only [PS, P1, P2, P3, P4, P5, P6, P7, P8, PA, PB, PC, Nat.reduceAdd, Nat.reduceSub, Nat.reduceMul, Nat.reduceLeDiff, Nat.reduceEqDiff, Nat.succ_ne_self, reduceCtorEq, Int.reduceToNat, Int.cast_ofNat_Int, Int.reduceEq, Int.reduceNe, Int.reduceLT, Int.reduceLE]
  refine i_call H46 ⟨gx, gt, bx, bt, 1, 1, [epAB], 1, 1, 1, rfl, hI7, hS7.le, hT6, kt1, kt2, by omega, by simp, by simp [epAB], by omega, by omega, by omega, by omega, fun _ => ?_, fun h => absurd h (by simp)⟩
  try simp (disch := first | omega | (simp only [PL]; omega)) only [PS, P1, P2, P3, P4, P5, P6, P7, P8, PA, PB, PC, Nat.reduceAdd, Nat.reduceSub, Nat.reduceMul, Nat.reduceLeDiff, Nat.reduceEqDiff, Nat.succ_ne_self, reduceCtorEq, Int.reduceToNat, Int.cast_ofNat_Int, Int.reduceEq, Int.reduceNe, Int.reduceLT, Int.reduceLE]
  refine i_call H49 ⟨gx, bx, bt, 1, 1, [epAB], 1, 1, 1, tagA, 0, rfl, hI7, hS7.le, fun h => absurd h (by omega), fun i hi _ => ?_⟩
  obtain rfl : i = 0 := by omega
  rw [par_AB]
  try simp (disch := first | omega | (simp only [PL]; omega)) only [PS, P1, P2, P3, P4, P5, P6, P7, P8, PA, PB, PC, Nat.reduceAdd, Nat.reduceSub, Nat.reduceMul, Nat.reduceLeDiff, Nat.reduceEqDiff, Nat.succ_ne_self, reduceCtorEq, Int.reduceToNat, Int.cast_ofNat_Int, Int.reduceEq, Int.reduceNe, Int.reduceLT, Int.reduceLE]
  refine i_call H19 ⟨0, 0, rfl, ?_⟩
  rw [decide_eq_true rfl]
  try simp (disch := first | omega | (simp only [PL]; omega)) only [PS, P1, P2, P3, P4, P5, P6, P7, P8, PA, PB, PC, Nat.reduceAdd, Nat.reduceSub, Nat.reduceMul, Nat.reduceLeDiff, Nat.reduceEqDiff, Nat.succ_ne_self, reduceCtorEq, Int.reduceToNat, Int.cast_ofNat_Int, Int.reduceEq, Int.reduceNe, Int.reduceLT, Int.reduceLE]
  refine i_call H47 ⟨gx, bx, bt, 1, 1, [epAB], 1, 1, 1, rfl, hI7, hS7.le, ?_⟩
  try simp (disch := first | omega | (simp only [PL]; omega)) only [PS, P1, P2, P3, P4, P5, P6, P7, P8, PA, PB, PC, Nat.reduceAdd, Nat.reduceSub, Nat.reduceMul, Nat.reduceLeDiff, Nat.reduceEqDiff, Nat.succ_ne_self, reduceCtorEq, Int.reduceToNat, Int.cast_ofNat_Int, Int.reduceEq, Int.reduceNe, Int.reduceLT, Int.reduceLE]
  exact hK h7 kf1
end Go.Cw
namespace Go.Cw
open Go

/-- two tracks and an Inside, held apart, beside what stays -/
structure K3 (h H gt gm gx F : Heap) : Prop where
  k : K2 h H gt gm F
  lx : Heap.le gx H
  dxt : disj gx gt
  dxm : disj gx gm
  dxF : disj gx F
section
variable {h H gt gm gx F H' g' : Heap}
theorem K3.more (k : K3 h H gt gm gx F) (hl : Heap.le H H') : K3 h H' gt gm gx F := ⟨k.k.more hl, k.lx.trans hl, k.dxt, k.dxm, k.dxF⟩
theorem K3.stepT (k : K3 h H gt gm gx F) (s : Step gt H g' H') : K3 h H' g' gm gx F :=
  let a := s.keep k.lx k.dxt; ⟨k.k.stepT s, a.1, a.2, k.dxm, k.dxF⟩
theorem K3.stepM (k : K3 h H gt gm gx F) (s : Step gm H g' H') : K3 h H' gt g' gx F :=
  let a := s.keep k.lx k.dxm; ⟨k.k.stepM s, a.1, k.dxt, a.2, k.dxF⟩
theorem K3.stepX (k : K3 h H gt gm gx F) (s : Step gx H g' H') : K3 h H' gt gm g' F :=
  let a := s.keep k.k.lt k.dxt.sym; let b := s.keep k.k.lm k.dxm.sym; let c := s.keep k.k.lF k.dxF.sym
  ⟨⟨k.k.hF, c.1, a.1, b.1, k.k.dtm, k.k.dtF, k.k.dmF⟩, s.le, a.2.sym, b.2.sym, c.2.sym⟩
theorem K3.freeze (k : K3 h H gt gm gx F) (hl : Heap.le H H') : K3 h H' gt gm gx (join F (fr H H')) :=
  ⟨k.k.freeze hl, k.lx.trans hl, k.dxt, k.dxm, disj_fr k.lx k.dxF⟩
end

def S9 : Spec := fun args h K => ∃ w n sp sc v L other, args = [.int .i64 w, .int .i64 n, .int .i64 sp, .int .i64 sc, v, .string (str other)] ∧ SS h v L ∧ ∀ h', Heap.le h h' → K (.bool true) h'
theorem F9_ok {N : Num} {Γ : Ctx} [GoodC Γ] (H42 : Sat S42 (Γ 42)) (H12 : Sat S12t (Γ 12)) (H43 : Sat S43 (Γ 43)) (H13 : Sat (S13 N) (Γ 13)) (H44 : Sat (S44 N) (Γ 44)) (H19 : Sat (S19 N) (Γ 19)) (H45 : Sat S45 (Γ 45)) (H29 : Sat (S29 N) (Γ 29)) (H46 : Sat S46 (Γ 46)) (H47 : Sat S47 (Γ 47)) (H14 : Sat S14 (Γ 14)) (H48 : Sat S48 (Γ 48)) (H49 : Sat (S49 N) (Γ 49)) : Sat S9 (SF N Γ F9) := by
  rintro _ h K ⟨w, n, sp, sc, v, L, other, rfl, hL, hK⟩
  refine i_fun rfl ?_
  simp only [F9, env0, List.map, List.length, List.replicate, List.cons_append, List.nil_append, Nat.reduceSub, Nat.reduceAdd]
  try simp (disch := first | omega | (simp only [PL]; omega)) only [PS, P1, P2, P3, P4, P5, P6, P7, P8, PA, PB, PC, Nat.reduceAdd, Nat.reduceSub, Nat.reduceMul, Nat.reduceLeDiff, Nat.reduceEqDiff, Nat.succ_ne_self, reduceCtorEq, Int.reduceToNat, Int.cast_ofNat_Int, Int.reduceEq, Int.reduceNe, Int.reduceLT, Int.reduceLE]
  refine i_call H42 ⟨rfl, fun h1 hle1 => ?_⟩
  have hL1 := hL.le hle1
  try simp (disch := first | omega | (simp only [PL]; omega)) only [PS, P1, P2, P3, P4, P5, P6, P7, P8, PA, PB, PC, Nat.reduceAdd, Nat.reduceSub, Nat.reduceMul, Nat.reduceLeDiff, Nat.reduceEqDiff, Nat.succ_ne_self, reduceCtorEq, Int.reduceToNat, Int.cast_ofNat_Int, Int.reduceEq, Int.reduceNe, Int.reduceLT, Int.reduceLE]
  refine i_call H12 ⟨v, L, rfl, hL1, fun bb hbb => ?_⟩
  cases bb with
  | false =>
    try simp (disch := first | omega | (simp only [PL]; omega)) only [PS, P1, P2, P3, P4, P5, P6, P7, P8, PA, PB, PC, Nat.reduceAdd, Nat.reduceSub, Nat.reduceMul, Nat.reduceLeDiff, Nat.reduceEqDiff, Nat.succ_ne_self, reduceCtorEq, Int.reduceToNat, Int.cast_ofNat_Int, Int.reduceEq, Int.reduceNe, Int.reduceLT, Int.reduceLE]
    exact hK h1 hle1
  | true =>
  have hli := hbb rfl
  obtain ⟨vs, hv, hvl, hr⟩ := id hL1
  have R := hv.rules1 id (fun _ => rfl) undef
  rw [hvl] at R
  by_cases h12 : L.length ≤ 12
  rotate_left
  · have h12' : ((12 : Int) < (L.length : Int)) = True := by rw [eq_iff_iff]; simp; omega
    try simp (disch := first | omega | (simp only [PL]; omega)) only [PS, P1, P2, P3, P4, P5, P6, P7, P8, PA, PB, PC, Nat.reduceAdd, Nat.reduceSub, Nat.reduceMul, Nat.reduceLeDiff, Nat.reduceEqDiff, Nat.succ_ne_self, reduceCtorEq, Int.reduceToNat, Int.cast_ofNat_Int, Int.reduceEq, Int.reduceNe, Int.reduceLT, Int.reduceLE, R, h12']
    exact hK h1 hle1
  have h12' : ((12 : Int) < (L.length : Int)) = False := by rw [eq_iff_iff]; simp; omega
  try simp (disch := first | omega | (simp only [PL]; omega)) only [PS, P1, P2, P3, P4, P5, P6, P7, P8, PA, PB, PC, Nat.reduceAdd, Nat.reduceSub, Nat.reduceMul, Nat.reduceLeDiff, Nat.reduceEqDiff, Nat.succ_ne_self, reduceCtorEq, Int.reduceToNat, Int.cast_ofNat_Int, Int.reduceEq, Int.reduceNe, Int.reduceLT, Int.reduceLE, R, h12']
  refine i_call H43 ⟨v, L, rfl, hL1, hli.1, ?_⟩
  try simp (disch := first | omega | (simp only [PL]; omega)) only [PS, P1, P2, P3, P4, P5, P6, P7, P8, PA, PB, PC, Nat.reduceAdd, Nat.reduceSub, Nat.reduceMul, Nat.reduceLeDiff, Nat.reduceEqDiff, Nat.succ_ne_self, reduceCtorEq, Int.reduceToNat, Int.cast_ofNat_Int, Int.reduceEq, Int.reduceNe, Int.reduceLT, Int.reduceLE]
  refine i_cond (fun c1 => ?_) (fun c1 => ?_)
  · try simp (disch := first | omega | (simp only [PL]; omega)) only [PS, P1, P2, P3, P4, P5, P6, P7, P8, PA, PB, PC, Nat.reduceAdd, Nat.reduceSub, Nat.reduceMul, Nat.reduceLeDiff, Nat.reduceEqDiff, Nat.succ_ne_self, reduceCtorEq, Int.reduceToNat, Int.cast_ofNat_Int, Int.reduceEq, Int.reduceNe, Int.reduceLT, Int.reduceLE]
    exact hK h1 hle1
  try simp (disch := first | omega | (simp only [PL]; omega)) only [PS, P1, P2, P3, P4, P5, P6, P7, P8, PA, PB, PC, Nat.reduceAdd, Nat.reduceSub, Nat.reduceMul, Nat.reduceLeDiff, Nat.reduceEqDiff, Nat.succ_ne_self, reduceCtorEq, Int.reduceToNat, Int.cast_ofNat_Int, Int.reduceEq, Int.reduceNe, Int.reduceLT, Int.reduceLE]
  refine i_call H13 ⟨w, n, .slice none 0 0, [], rfl, ⟨[], Sl.nil, rfl, by simp⟩, ⟨⟨by simp, by simp⟩, by simp⟩, fun hb h2 hle2 => ?_, fun hb bt bm H gt gm F hk hT hM => ?_⟩
  · try simp (disch := first | omega | (simp only [PL]; omega)) only [PS, P1, P2, P3, P4, P5, P6, P7, P8, PA, PB, PC, Nat.reduceAdd, Nat.reduceSub, Nat.reduceMul, Nat.reduceLeDiff, Nat.reduceEqDiff, Nat.succ_ne_self, reduceCtorEq, Int.reduceToNat, Int.cast_ofNat_Int, Int.reduceEq, Int.reduceNe, Int.reduceLT, Int.reduceLE]
    exact hK h2 (hle1.trans hle2)
  simp only [newBad] at hb
  have hg0 : goodE [] = [] := rfl
  rw [hg0] at hT hM
  generalize hwn : w.toNat = wn at *
  generalize hnn : n.toNat = nn at *
  have hb1 : 1 ≤ wn ∧ wn ≤ 8 ∧ 1 ≤ nn ∧ nn ≤ wn := by omega
  try simp (disch := first | omega | (simp only [PL]; omega)) only [PS, P1, P2, P3, P4, P5, P6, P7, P8, PA, PB, PC, Nat.reduceAdd, Nat.reduceSub, Nat.reduceMul, Nat.reduceLeDiff, Nat.reduceEqDiff, Nat.succ_ne_self, reduceCtorEq, Int.reduceToNat, Int.cast_ofNat_Int, Int.reduceEq, Int.reduceNe, Int.reduceLT, Int.reduceLE]
  refine i_call H44 ⟨bt, wn, nn, sp, sc, rfl, fun hib => ?_, fun hib bx H2 hbx hle2 hI => ?_⟩
  · simp only [inBad] at hib
    try simp (disch := first | omega | (simp only [PL]; omega)) only [PS, P1, P2, P3, P4, P5, P6, P7, P8, PA, PB, PC, Nat.reduceAdd, Nat.reduceSub, Nat.reduceMul, Nat.reduceLeDiff, Nat.reduceEqDiff, Nat.succ_ne_self, reduceCtorEq, Int.reduceToNat, Int.cast_ofNat_Int, Int.reduceEq, Int.reduceNe, Int.reduceLT, Int.reduceLE]
    refine i_cond (fun c2 => ?_) (fun c2 => by exfalso; omega)
    try simp (disch := first | omega | (simp only [PL]; omega)) only [PS, P1, P2, P3, P4, P5, P6, P7, P8, PA, PB, PC, Nat.reduceAdd, Nat.reduceSub, Nat.reduceMul, Nat.reduceLeDiff, Nat.reduceEqDiff, Nat.succ_ne_self, reduceCtorEq, Int.reduceToNat, Int.cast_ofNat_Int, Int.reduceEq, Int.reduceNe, Int.reduceLT, Int.reduceLE]
    refine i_call H19 ⟨1, 1, rfl, ?_⟩
    rw [decide_eq_true rfl]
    try simp (disch := first | omega | (simp only [PL]; omega)) only [PS, P1, P2, P3, P4, P5, P6, P7, P8, PA, PB, PC, Nat.reduceAdd, Nat.reduceSub, Nat.reduceMul, Nat.reduceLeDiff, Nat.reduceEqDiff, Nat.succ_ne_self, reduceCtorEq, Int.reduceToNat, Int.cast_ofNat_Int, Int.reduceEq, Int.reduceNe, Int.reduceLT, Int.reduceLE]
    exact hK H (hle1.trans hk.le)
  simp only [inBad] at hib
  generalize hspn : sp.toNat = spn at *
  generalize hscn : sc.toNat = scn at *
  have hb2 : 1 ≤ spn ∧ spn ≤ 8 ∧ 1 ≤ scn ∧ scn ≤ spn := by omega
  obtain rfl : sp = (spn : Nat) := by omega
  obtain rfl : sc = (scn : Nat) := by omega
  have hk3 : K3 h1 H2 gt gm (fr H H2) F := ⟨hk.more hle2, fr_le _ _, (disj_fr_of hk.lt).sym, (disj_fr_of hk.lm).sym, (disj_fr_of hk.lF).sym⟩
  try simp (disch := first | omega | (simp only [PL]; omega)) only [PS, P1, P2, P3, P4, P5, P6, P7, P8, PA, PB, PC, Nat.reduceAdd, Nat.reduceSub, Nat.reduceMul, Nat.reduceLeDiff, Nat.reduceEqDiff, Nat.succ_ne_self, reduceCtorEq, Int.reduceToNat, Int.cast_ofNat_Int, Int.reduceEq, Int.reduceNe, Int.reduceLT, Int.reduceLE]
  refine i_cond (fun c2 => by exfalso; omega) (fun c2 => ?_)
  try simp (disch := first | omega | (simp only [PL]; omega)) only [PS, P1, P2, P3, P4, P5, P6, P7, P8, PA, PB, PC, Nat.reduceAdd, Nat.reduceSub, Nat.reduceMul, Nat.reduceLeDiff, Nat.reduceEqDiff, Nat.succ_ne_self, reduceCtorEq, Int.reduceToNat, Int.cast_ofNat_Int, Int.reduceEq, Int.reduceNe, Int.reduceLT, Int.reduceLE]
  have hgd : ∀ i, ∀ l ∈ goodE (L.take i), isGood l ∧ l.length ≤ 25 ∧ ∀ s ∈ l, s.tag.length ≤ 20 := by
    intro i l hl
    unfold goodE at hl
    obtain ⟨k1, k2⟩ := List.mem_filter.1 hl
    have k3 := List.mem_of_mem_take k1
    exact ⟨of_decide_eq_true k2, hli.1.2 l k3, hli.2 l k3⟩
  have hgl : ∀ i, (goodE (L.take i)).length ≤ 12 := by
    intro i
    have := List.length_filter_le (fun l => decide (∀ s ∈ l, ¬ s.bad)) (L.take i)
    have h3 : (L.take i).length ≤ 12 := by rw [List.length_take]; omega
    unfold goodE; omega
  refine i_meet_blk (fun env H => ∃ gt gm gx looked, K3 h1 H gt gm gx F ∧ RT gm bm wn nn (goodE L) ∧ InO gx bx bt wn nn (goodE L) spn scn looked ∧ env = [some (.int .i64 w), some (.int .i64 n), some (.int .i64 spn), some (.int .i64 scn), some v, some (.string (str other)), none, none, some (.pointer (some ⟨bt, 0, none⟩)), some (.pointer (some ⟨bm, 0, none⟩)), none, some (.pointer (some ⟨bx, 0, none⟩)), none, some (.int .i64 (looked : Nat)), none, none, none, none, none, none, none, none, none, none, none, none, none, none, none, none, none, none, none, none, none, none, none, none, none, none, none, none, none, none, none, none, none, none, none, none, none, none, none, none, none, none, none, none]) ?_ ?_
  rotate_left
  · refine i_loop (fun x : Nat × Nat => [some (.int .i64 w), some (.int .i64 n), some (.int .i64 spn), some (.int .i64 scn), some v, some (.string (str other)), none, none, some (.pointer (some ⟨bt, 0, none⟩)), some (.pointer (some ⟨bm, 0, none⟩)), none, some (.pointer (some ⟨bx, 0, none⟩)), none, some (.int .i64 (x.2 : Nat)), some (.int .i64 (x.1 : Nat)), none, none, none, none, none, none, none, none, none, none, none, none, none, none, none, none, none, none, none, none, none, none, none, none, none, none, none, none, none, none, none, none, none, none, none, none, none, none, none, none, none, none, none])
      (fun x H => x.1 ≤ L.length ∧ ∃ gt gm gx, K3 h1 H gt gm gx F ∧ TrO gt bt wn nn (goodE (L.take x.1)) ∧ RT gm bm wn nn (goodE (L.take x.1)) ∧ InO gx bx bt wn nn (goodE (L.take x.1)) spn scn x.2) (fun x => L.length - x.1) (0, 0) (by dsimp only; try simp only [Pe, and_true, true_and, and_self]; rfl) ⟨by dsimp only; omega, gt, gm, _, hk3, by simpa [goodE] using hT, by simpa [goodE] using hM, hI _⟩ ?_
    clear hT hM hI hk hk3 hle2
    rintro ⟨i, looked⟩ H ⟨hi, gt, gm, gx, hk, hT, hM, hI⟩
    dsimp only at hi hT hM hI ⊢
    have Rv := (hv.le hk.k.le).rules1 id (fun _ => rfl) undef
    rw [hvl] at Rv
    try simp (disch := first | omega | (simp only [PL]; omega)) only [PS, P1, P2, P3, P4, P5, P6, P7, P8, PA, PB, PC, Nat.reduceAdd, Nat.reduceSub, Nat.reduceMul, Nat.reduceLeDiff, Nat.reduceEqDiff, Nat.succ_ne_self, reduceCtorEq, Int.reduceToNat, Int.cast_ofNat_Int, Int.reduceEq, Int.reduceNe, Int.reduceLT, Int.reduceLE, Rv]
    refine i_cond (fun c3 => ?_) (fun c3 => ?_)
    rotate_left
    · have : i = L.length := by omega
      subst this
      rw [List.take_length] at hT hM hI
      try simp (disch := first | omega | (simp only [PL]; omega)) only [PS, P1, P2, P3, P4, P5, P6, P7, P8, PA, PB, PC, Nat.reduceAdd, Nat.reduceSub, Nat.reduceMul, Nat.reduceLeDiff, Nat.reduceEqDiff, Nat.succ_ne_self, reduceCtorEq, Int.reduceToNat, Int.cast_ofNat_Int, Int.reduceEq, Int.reduceNe, Int.reduceLT, Int.reduceLE]
      exact k_meet _ (by try simp only [Pe, and_true, true_and, and_self]) ⟨gt, gm, gx, looked, hk, hM, hI, rfl⟩
    have hi2 : i < L.length := by omega
    have hrow := hr i hi2
    have hrl : (L.getD i []).length ≤ 25 := hli.1.2 _ (getD_mem [] hi2)
    have hnext : goodE (L.take (i + 1)) = addE (goodE (L.take i)) (L.getD i []) := by rw [goodE_take hi2]; rfl
    have hw : IntKind.i64.wrap ((i : Int) + 1) = ((i + 1 : Nat) : Int) := by rw [w64 (by omega) (by omega)]; omega
    have hmod : Int.tmod (i : Int) 3 = ((i % 3 : Nat) : Int) := rfl
    have hgdi := hgd i
    have hgli := hgl i
    have hgd1 := hgd (i + 1)
    have hgl1 := hgl (i + 1)
    generalize hrw : L.getD i [] = row at *
    try simp (disch := first | omega | (simp only [PL]; omega)) only [PS, P1, P2, P3, P4, P5, P6, P7, P8, PA, PB, PC, Nat.reduceAdd, Nat.reduceSub, Nat.reduceMul, Nat.reduceLeDiff, Nat.reduceEqDiff, Nat.succ_ne_self, reduceCtorEq, Int.reduceToNat, Int.cast_ofNat_Int, Int.reduceEq, Int.reduceNe, Int.reduceLT, Int.reduceLE, Rv, id]
    refine i_call H45 (S45_all (hrow.le hk.k.le) hM hk.k.lm (by omega) (by omega) fun gm1 H3 hS3 hM3 => ?_)
    have hk3 := hk.stepM hS3
    have Rv3 := (hv.le hk3.k.le).rules1 id (fun _ => rfl) undef
    rw [hvl] at Rv3
    try simp (disch := first | omega | (simp only [PL]; omega)) only [PS, P1, P2, P3, P4, P5, P6, P7, P8, PA, PB, PC, Nat.reduceAdd, Nat.reduceSub, Nat.reduceMul, Nat.reduceLeDiff, Nat.reduceEqDiff, Nat.succ_ne_self, reduceCtorEq, Int.reduceToNat, Int.cast_ofNat_Int, Int.reduceEq, Int.reduceNe, Int.reduceLT, Int.reduceLE, Rv3, id]
    refine i_call H29 (S29_all (hrow.le hk3.k.le) hT hk3.k.lt ⟨by omega, by omega, by omega, fun l hl => ⟨(hgdi l hl).1, by have := (hgdi l hl).2.1; omega⟩⟩ (by omega) (by omega) fun gt1 H4 hS4 hT4 => ?_)
    have hk4 := hk3.stepT hS4
    try simp (disch := first | omega | (simp only [PL]; omega)) only [PS, P1, P2, P3, P4, P5, P6, P7, P8, PA, PB, PC, Nat.reduceAdd, Nat.reduceSub, Nat.reduceMul, Nat.reduceLeDiff, Nat.reduceEqDiff, Nat.succ_ne_self, reduceCtorEq, Int.reduceToNat, Int.cast_ofNat_Int, Int.reduceEq, Int.reduceNe, Int.reduceLT, Int.reduceLE]
    refine i_call H19 ⟨errE row, errE row, rfl, ?_⟩
    rw [decide_eq_true rfl]
    rw [← hnext] at hM3 hT4
    have hI4 : InO gx bx bt wn nn (goodE (L.take (i + 1))) spn scn looked := by rw [hnext]; unfold addE; exact hI.more
    generalize hE : goodE (L.take (i + 1)) = E at *
    clear hI hT hM hk hk3 hS3 hS4
    try simp (disch := first | omega | (simp only [PL]; omega)) only [PS, P1, P2, P3, P4, P5, P6, P7, P8, PA, PB, PC, Nat.reduceAdd, Nat.reduceSub, Nat.reduceMul, Nat.reduceLeDiff, Nat.reduceEqDiff, Nat.succ_ne_self, reduceCtorEq, Int.reduceToNat, Int.cast_ofNat_Int, Int.reduceEq, Int.reduceNe, Int.reduceLT, Int.reduceLE]
    refine i_loop (fun x : Nat × Nat => [some (.int .i64 w), some (.int .i64 n), some (.int .i64 spn), some (.int .i64 scn), some v, some (.string (str other)), none, none, some (.pointer (some ⟨bt, 0, none⟩)), some (.pointer (some ⟨bm, 0, none⟩)), none, some (.pointer (some ⟨bx, 0, none⟩)), none, some (.int .i64 (x.2 : Nat)), some (.int .i64 (i : Nat)), none, some (.int .i64 (x.1 : Nat)), none, none, none, none, none, none, none, none, none, none, none, none, none, none, none, none, none, none, none, none, none, none, none, none, none, none, none, none, none, none, none, none, none, none, none, none, none, none, none, none, none])
      (fun x H => x.1 ≤ i % 3 ∧ ∃ gx, K3 h1 H gt1 gm1 gx F ∧ InO gx bx bt wn nn E spn scn x.2) (fun x => i % 3 - x.1) (0, looked) (by dsimp only; try simp only [Pe, and_true, true_and, and_self]; rfl) ⟨by dsimp only; omega, gx, hk4, hI4⟩ ?_
    clear hI4 hk4
    rintro ⟨k, lk⟩ H5 ⟨hkk, gx, hk, hI⟩
    dsimp only at hkk hI ⊢
    have hlk : lk ≤ E.length := by obtain ⟨_, _, _, q⟩ := hI; exact q.lk
    have hwk : IntKind.i64.wrap ((k : Int) + 1) = ((k + 1 : Nat) : Int) := by rw [w64 (by omega) (by omega)]; omega
    have hwl : IntKind.i64.wrap ((lk : Int) + 1) = ((lk + 1 : Nat) : Int) := by rw [w64 (by omega) (by omega)]; omega
    try simp (disch := first | omega | (simp only [PL]; omega)) only [PS, P1, P2, P3, P4, P5, P6, P7, P8, PA, PB, PC, Nat.reduceAdd, Nat.reduceSub, Nat.reduceMul, Nat.reduceLeDiff, Nat.reduceEqDiff, Nat.succ_ne_self, reduceCtorEq, Int.reduceToNat, Int.cast_ofNat_Int, Int.reduceEq, Int.reduceNe, Int.reduceLT, Int.reduceLE, hmod]
    refine i_cond (fun c4 => ?_) (fun c4 => ?_)
    rotate_left
    · try simp (disch := first | omega | (simp only [PL]; omega)) only [PS, P1, P2, P3, P4, P5, P6, P7, P8, PA, PB, PC, Nat.reduceAdd, Nat.reduceSub, Nat.reduceMul, Nat.reduceLeDiff, Nat.reduceEqDiff, Nat.succ_ne_self, reduceCtorEq, Int.reduceToNat, Int.cast_ofNat_Int, Int.reduceEq, Int.reduceNe, Int.reduceLT, Int.reduceLE, hw]
      exact k_loop (i + 1, lk) (by dsimp only; omega) (by dsimp only; try simp only [Pe, and_true, true_and, and_self]) ⟨by dsimp only; omega, gt1, gm1, gx, hk, by dsimp only; rw [hE]; exact hT4, by dsimp only; rw [hE]; exact hM3, by dsimp only; rw [hE]; exact hI⟩
    have hRead := fun (H : Heap) (hl : Heap.le gm1 H) => hM3.read hl
    try simp (disch := first | omega | (simp only [PL]; omega)) only [PS, P1, P2, P3, P4, P5, P6, P7, P8, PA, PB, PC, Nat.reduceAdd, Nat.reduceSub, Nat.reduceMul, Nat.reduceLeDiff, Nat.reduceEqDiff, Nat.succ_ne_self, reduceCtorEq, Int.reduceToNat, Int.cast_ofNat_Int, Int.reduceEq, Int.reduceNe, Int.reduceLT, Int.reduceLE]
    refine i_call H46 ⟨gx, gt1, bx, bt, wn, nn, E, spn, scn, lk, rfl, hI, hk.lx, hT4, hk.k.lt, hk.dxt.sym, by omega, by omega, fun l hl => by have := (hgd1 l hl).2.1; omega, by omega, by omega, by omega, by omega, fun hle => ?_, fun hlt gx1 H6 hS6 hI6 => ?_⟩
    · obtain ⟨evm, fvm, hom, ⟨vsm, hvm, hvml, _⟩, _⟩ := hRead H5 hk.k.lm
      have Am : H5.cell ((⟨bm, 0, none⟩ : Addr).add 2) = some evm := hom.rules.1 2 (by simp)
      have Rm := hvm.rules1 id (fun _ => rfl) undef
      rw [hvml] at Rm
      have hcl : decide ((lk : Int) < (E.length : Int)) = false := by simp; omega
      try simp (disch := first | omega | (simp only [PL]; omega)) only [PS, P1, P2, P3, P4, P5, P6, P7, P8, PA, PB, PC, Nat.reduceAdd, Nat.reduceSub, Nat.reduceMul, Nat.reduceLeDiff, Nat.reduceEqDiff, Nat.succ_ne_self, reduceCtorEq, Int.reduceToNat, Int.cast_ofNat_Int, Int.reduceEq, Int.reduceNe, Int.reduceLT, Int.reduceLE, Am, Rm, hcl, hwk]
      exact k_loop (k + 1, lk) (by dsimp only; omega) (by dsimp only; try simp only [Pe, and_true, true_and, and_self]) ⟨by dsimp only; omega, gx, hk, hI⟩
    · have hk6 := hk.stepX hS6
      obtain ⟨evm, fvm, hom, ⟨vsm, hvm, hvml, _⟩, _⟩ := hRead H6 hk6.k.lm
      have Am : H6.cell ((⟨bm, 0, none⟩ : Addr).add 2) = some evm := hom.rules.1 2 (by simp)
      have Rm := hvm.rules1 id (fun _ => rfl) undef
      rw [hvml] at Rm
      have hcl : decide ((lk : Int) < (E.length : Int)) = true := by simp; omega
      try simp (disch := first | omega | (simp only [PL]; omega)) only [PS, P1, P2, P3, P4, P5, P6, P7, P8, PA, PB, PC, Nat.reduceAdd, Nat.reduceSub, Nat.reduceMul, Nat.reduceLeDiff, Nat.reduceEqDiff, Nat.succ_ne_self, reduceCtorEq, Int.reduceToNat, Int.cast_ofNat_Int, Int.reduceEq, Int.reduceNe, Int.reduceLT, Int.reduceLE, Am, Rm, hcl, hwk, hwl]
      exact k_loop (k + 1, lk + 1) (by dsimp only; omega) (by dsimp only; try simp only [Pe, and_true, true_and, and_self]) ⟨by dsimp only; omega, gx1, hk6, hI6⟩
  clear hT hM hI hk hk3 hle2
  rintro env H ⟨gt, gm, gx, looked, hk, hM, hI, rfl⟩
  have hgdL := hgd L.length
  have hglL := hgl L.length
  rw [List.take_length] at hgdL hglL
  generalize goodE L = E at *
  have hlk : looked ≤ E.length := by obtain ⟨_, _, _, q⟩ := hI; exact q.lk
  try simp (disch := first | omega | (simp only [PL]; omega)) only [PS, P1, P2, P3, P4, P5, P6, P7, P8, PA, PB, PC, Nat.reduceAdd, Nat.reduceSub, Nat.reduceMul, Nat.reduceLeDiff, Nat.reduceEqDiff, Nat.succ_ne_self, reduceCtorEq, Int.reduceToNat, Int.cast_ofNat_Int, Int.reduceEq, Int.reduceNe, Int.reduceLT, Int.reduceLE]
  refine i_call H47 ⟨gx, bx, bt, wn, nn, E, spn, scn, looked, rfl, hI, hk.lx, ?_⟩
  have hR := hM.read hk.k.lm
  obtain ⟨evm, fvm, hom, ⟨vsm, hvm, hvml, _⟩, _⟩ := id hR
  have Am : H.cell ((⟨bm, 0, none⟩ : Addr).add 2) = some evm := hom.rules.1 2 (by simp)
  have Rm := hvm.rules1 id (fun _ => rfl) undef
  rw [hvml] at Rm
  try simp (disch := first | omega | (simp only [PL]; omega)) only [PS, P1, P2, P3, P4, P5, P6, P7, P8, PA, PB, PC, Nat.reduceAdd, Nat.reduceSub, Nat.reduceMul, Nat.reduceLeDiff, Nat.reduceEqDiff, Nat.succ_ne_self, reduceCtorEq, Int.reduceToNat, Int.cast_ofNat_Int, Int.reduceEq, Int.reduceNe, Int.reduceLT, Int.reduceLE, Am, Rm]
  refine i_call H14 ⟨⟨bm, 0, none⟩, _, _, E, E.length, rfl, hR, fun v14 H2 ho14 => ?_⟩
  rw [List.take_of_length_le (by omega)] at ho14
  have hfl := flatT_len E fun l hl => by have := (hgdL l hl).2.1; omega
  have htl2 : (tagsE E).length ≤ 500000 := by have := tagsOfL_len (flatT E); unfold tagsE; omega
  have htag : ∀ t, toldE E t → t.length ≤ 20 := by
    rintro t ⟨l, hl, s, hs, rfl⟩
    exact (hgdL l hl).2.2 s hs
  try simp (disch := first | omega | (simp only [PL]; omega)) only [PS, P1, P2, P3, P4, P5, P6, P7, P8, PA, PB, PC, Nat.reduceAdd, Nat.reduceSub, Nat.reduceMul, Nat.reduceLeDiff, Nat.reduceEqDiff, Nat.succ_ne_self, reduceCtorEq, Int.reduceToNat, Int.cast_ofNat_Int, Int.reduceEq, Int.reduceNe, Int.reduceLT, Int.reduceLE]
  refine i_bslB encT 1 (fun _ => rfl) [other] rfl rfl (by simp [maxLen]) fun x1 b1 H3 hle3 hb1 hx1 hS1 => ?_
  have O2 := hS1.one
  try simp (disch := first | omega | (simp only [PL]; omega)) only [PS, P1, P2, P3, P4, P5, P6, P7, P8, PA, PB, PC, Nat.reduceAdd, Nat.reduceSub, Nat.reduceMul, Nat.reduceLeDiff, Nat.reduceEqDiff, Nat.succ_ne_self, reduceCtorEq, Int.reduceToNat, Int.cast_ofNat_Int, Int.reduceEq, Int.reduceNe, Int.reduceLT, Int.reduceLE]
  refine i_app1 (enc := encT) (fun _ => rfl) (l' := [other]) (by simp [encT, one]) (ho14.le hle3) (SlB.sl (enc := encT) (fun _ => rfl) (hS1.le (fr_le _ _))) (by simp; omega) fun v5 H4 ho5 => ?_
  have hk4 := hk.freeze ho5.1
  have hv5 : Sl encT (join F (fr H H4)) v5 (tagsE E ++ [other]) := (OwnS.slf2 (enc := encT) (fun _ => rfl) ho5).le (join_r (hk.k.lF.trans ho5.1) (fr_le _ _))
  have htg : ∀ t ∈ tagsE E ++ [other], t.length ≤ 1000000 := by
    intro t ht
    rw [List.mem_append, List.mem_singleton] at ht
    rcases ht with ht | rfl
    · have := htag t ((mem_tagsE E t).1 ht); omega
    · omega
  have htn : (tagsE E ++ [other]).length ≤ 500001 := by simp; omega
  generalize tagsE E ++ [other] = tags at *
  generalize join F (fr H H4) = F2 at *
  try simp (disch := first | omega | (simp only [PL]; omega)) only [PS, P1, P2, P3, P4, P5, P6, P7, P8, PA, PB, PC, Nat.reduceAdd, Nat.reduceSub, Nat.reduceMul, Nat.reduceLeDiff, Nat.reduceEqDiff, Nat.succ_ne_self, reduceCtorEq, Int.reduceToNat, Int.cast_ofNat_Int, Int.reduceEq, Int.reduceNe, Int.reduceLT, Int.reduceLE]
  refine i_loop (fun i : Nat => [some (.int .i64 w), some (.int .i64 n), some (.int .i64 spn), some (.int .i64 scn), some v, some (.string (str other)), none, none, some (.pointer (some ⟨bt, 0, none⟩)), some (.pointer (some ⟨bm, 0, none⟩)), none, some (.pointer (some ⟨bx, 0, none⟩)), none, some (.int .i64 (looked : Nat)), none, none, none, none, some v5, some (.int .i64 (i : Nat)), none, none, none, none, none, none, none, none, none, none, none, none, none, none, none, none, none, none, none, none, none, none, none, none, none, none, none, none, none, none, none, none, none, none, none, none, none, none])
      (fun i H => i ≤ tags.length ∧ ∃ gm, K3 h1 H gt gm gx F2 ∧ RT gm bm wn nn E) (fun i => tags.length - i) 0 (by try simp only [Pe, and_true, true_and, and_self]; rfl) ⟨by omega, gm, hk4, hM⟩ ?_
  clear hM hk hk4 hR hvm hom Am Rm
  rintro i H5 ⟨hi, gm, hk, hM⟩
  have RV := (hv5.le hk.k.lF).rules1 (fun s => .string (str s)) (fun _ => rfl) default
  have hw : IntKind.i64.wrap ((i : Int) + 1) = ((i + 1 : Nat) : Int) := by rw [w64 (by omega) (by omega)]; omega
  try simp (disch := first | omega | (simp only [PL]; omega)) only [PS, P1, P2, P3, P4, P5, P6, P7, P8, PA, PB, PC, Nat.reduceAdd, Nat.reduceSub, Nat.reduceMul, Nat.reduceLeDiff, Nat.reduceEqDiff, Nat.succ_ne_self, reduceCtorEq, Int.reduceToNat, Int.cast_ofNat_Int, Int.reduceEq, Int.reduceNe, Int.reduceLT, Int.reduceLE, RV]
  refine i_cond (fun c3 => ?_) (fun c3 => ?_)
  rotate_left
  · try simp (disch := first | omega | (simp only [PL]; omega)) only [PS, P1, P2, P3, P4, P5, P6, P7, P8, PA, PB, PC, Nat.reduceAdd, Nat.reduceSub, Nat.reduceMul, Nat.reduceLeDiff, Nat.reduceEqDiff, Nat.succ_ne_self, reduceCtorEq, Int.reduceToNat, Int.cast_ofNat_Int, Int.reduceEq, Int.reduceNe, Int.reduceLT, Int.reduceLE]
    exact hK H5 (hle1.trans hk.k.le)
  have hi2 : i < tags.length := by omega
  have htl := htg _ (getD_mem default hi2)
  try simp (disch := first | omega | (simp only [PL]; omega)) only [PS, P1, P2, P3, P4, P5, P6, P7, P8, PA, PB, PC, Nat.reduceAdd, Nat.reduceSub, Nat.reduceMul, Nat.reduceLeDiff, Nat.reduceEqDiff, Nat.succ_ne_self, reduceCtorEq, Int.reduceToNat, Int.cast_ofNat_Int, Int.reduceEq, Int.reduceNe, Int.reduceLT, Int.reduceLE, RV]
  generalize hs : tags.getD i default = s at *
  refine i_call H48 ⟨gm, bm, wn, nn, E, s, looked, spn, scn, rfl, hM, hk.k.lm, ⟨by omega, by omega, by omega, fun l hl => (hgdL l hl).1⟩, htl, fun t ht => by have := htag t ht; omega, hlk, by omega, by omega, by omega, by omega, fun gm1 H6 wv hS6 hM6 hW hWb => ?_⟩
  have hk6 := hk.stepM hS6
  have RW := (SlB.sl (enc := encT) (sz := 1) (fun _ => rfl) hW).rules1 (fun s => .string (str s)) (fun _ => rfl) default
  rw [parL_len] at RW
  have RV6 := (hv5.le hk6.k.lF).rules1 (fun s => .string (str s)) (fun _ => rfl) default
  try simp (disch := first | omega | (simp only [PL]; omega)) only [PS, P1, P2, P3, P4, P5, P6, P7, P8, PA, PB, PC, Nat.reduceAdd, Nat.reduceSub, Nat.reduceMul, Nat.reduceLeDiff, Nat.reduceEqDiff, Nat.succ_ne_self, reduceCtorEq, Int.reduceToNat, Int.cast_ofNat_Int, Int.reduceEq, Int.reduceNe, Int.reduceLT, Int.reduceLE]
  refine i_loop (fun e : Nat => [some (.int .i64 w), some (.int .i64 n), some (.int .i64 spn), some (.int .i64 scn), some v, some (.string (str other)), none, none, some (.pointer (some ⟨bt, 0, none⟩)), some (.pointer (some ⟨bm, 0, none⟩)), none, some (.pointer (some ⟨bx, 0, none⟩)), none, some (.int .i64 (looked : Nat)), none, none, none, none, some v5, some (.int .i64 (i : Nat)), some wv, some (.int .i64 ((e : Int) - 1)), none, none, none, none, none, none, none, none, none, none, none, none, none, none, none, none, none, none, none, none, none, none, none, none, none, none, none, none, none, none, none, none, none, none, none, none])
      (fun e H => e ≤ looked + 2 ∧ H = H6) (fun e => looked + 2 - e) 0 (by try simp only [Pe, and_true, true_and, and_self]; rfl) ⟨by omega, rfl⟩ ?_
  rintro e H7 ⟨he, rfl⟩
  have hwe : IntKind.i64.wrap ((e : Int) - 1 + 1) = ((e + 1 : Nat) : Int) - 1 := by rw [w64 (by omega) (by omega)]; omega
  try simp (disch := first | omega | (simp only [PL]; omega)) only [PS, P1, P2, P3, P4, P5, P6, P7, P8, PA, PB, PC, Nat.reduceAdd, Nat.reduceSub, Nat.reduceMul, Nat.reduceLeDiff, Nat.reduceEqDiff, Nat.succ_ne_self, reduceCtorEq, Int.reduceToNat, Int.cast_ofNat_Int, Int.reduceEq, Int.reduceNe, Int.reduceLT, Int.reduceLE]
  refine i_cond (fun c4 => ?_) (fun c4 => ?_)
  rotate_left
  · try simp (disch := first | omega | (simp only [PL]; omega)) only [PS, P1, P2, P3, P4, P5, P6, P7, P8, PA, PB, PC, Nat.reduceAdd, Nat.reduceSub, Nat.reduceMul, Nat.reduceLeDiff, Nat.reduceEqDiff, Nat.succ_ne_self, reduceCtorEq, Int.reduceToNat, Int.cast_ofNat_Int, Int.reduceEq, Int.reduceNe, Int.reduceLT, Int.reduceLE, hw]
    exact k_loop (i + 1) (by omega) (by try simp only [Pe, and_true, true_and, and_self]) ⟨by omega, gm1, hk6, hM6⟩
  try simp (disch := first | omega | (simp only [PL]; omega)) only [PS, P1, P2, P3, P4, P5, P6, P7, P8, PA, PB, PC, Nat.reduceAdd, Nat.reduceSub, Nat.reduceMul, Nat.reduceLeDiff, Nat.reduceEqDiff, Nat.succ_ne_self, reduceCtorEq, Int.reduceToNat, Int.cast_ofNat_Int, Int.reduceEq, Int.reduceNe, Int.reduceLT, Int.reduceLE, RV6, hs]
  refine i_call H49 ⟨gx, bx, bt, wn, nn, E, spn, scn, looked, s, _, rfl, hI, hk6.lx, fun hb => ?_, fun j hj hjl => ?_⟩
  · try simp (disch := first | omega | (simp only [PL]; omega)) only [PS, P1, P2, P3, P4, P5, P6, P7, P8, PA, PB, PC, Nat.reduceAdd, Nat.reduceSub, Nat.reduceMul, Nat.reduceLeDiff, Nat.reduceEqDiff, Nat.succ_ne_self, reduceCtorEq, Int.reduceToNat, Int.cast_ofNat_Int, Int.reduceEq, Int.reduceNe, Int.reduceLT, Int.reduceLE]
    refine i_cond (fun c5 => ?_) (fun c5 => by exfalso; omega)
    try simp (disch := first | omega | (simp only [PL]; omega)) only [PS, P1, P2, P3, P4, P5, P6, P7, P8, PA, PB, PC, Nat.reduceAdd, Nat.reduceSub, Nat.reduceMul, Nat.reduceLeDiff, Nat.reduceEqDiff, Nat.succ_ne_self, reduceCtorEq, Int.reduceToNat, Int.cast_ofNat_Int, Int.reduceEq, Int.reduceNe, Int.reduceLT, Int.reduceLE]
    refine i_call H19 ⟨1, 1, rfl, ?_⟩
    rw [decide_eq_true rfl]
    try simp (disch := first | omega | (simp only [PL]; omega)) only [PS, P1, P2, P3, P4, P5, P6, P7, P8, PA, PB, PC, Nat.reduceAdd, Nat.reduceSub, Nat.reduceMul, Nat.reduceLeDiff, Nat.reduceEqDiff, Nat.succ_ne_self, reduceCtorEq, Int.reduceToNat, Int.cast_ofNat_Int, Int.reduceEq, Int.reduceNe, Int.reduceLT, Int.reduceLE, hwe]
    exact k_loop (e + 1) (by omega) (by try simp only [Pe, and_true, true_and, and_self]) ⟨by omega, rfl⟩
  · have hg := parL_get (w := wn) (n := nn) (E := E) (span := spn) (score := scn) (s := s) hjl
    rw [hj] at hwe ⊢
    try simp (disch := first | omega | (simp only [PL]; omega)) only [PS, P1, P2, P3, P4, P5, P6, P7, P8, PA, PB, PC, Nat.reduceAdd, Nat.reduceSub, Nat.reduceMul, Nat.reduceLeDiff, Nat.reduceEqDiff, Nat.succ_ne_self, reduceCtorEq, Int.reduceToNat, Int.cast_ofNat_Int, Int.reduceEq, Int.reduceNe, Int.reduceLT, Int.reduceLE]
    refine i_cond (fun c5 => by exfalso; omega) (fun c5 => ?_)
    try simp (disch := first | omega | (simp only [PL]; omega)) only [PS, P1, P2, P3, P4, P5, P6, P7, P8, PA, PB, PC, Nat.reduceAdd, Nat.reduceSub, Nat.reduceMul, Nat.reduceLeDiff, Nat.reduceEqDiff, Nat.succ_ne_self, reduceCtorEq, Int.reduceToNat, Int.cast_ofNat_Int, Int.reduceEq, Int.reduceNe, Int.reduceLT, Int.reduceLE, RW, hg, hwe]
    exact k_loop (e + 1) (by omega) (by try simp only [Pe, and_true, true_and, and_self]) ⟨by omega, rfl⟩
end Go.Cw
namespace Go.Cw
open Go

theorem fold_ex (T : List UInt8 → Nat) (score : Nat) (s was : List UInt8) (hs : 1 ≤ score) (l : List (List UInt8)) : ordT l → ∃ best most, FoldP T score s was l best most := by
  induction l using snoc_ind with
  | h0 => intro _; exact ⟨_, _, FoldP.nil⟩
  | hs l p ih =>
    intro ho
    obtain ⟨h1, _, h2⟩ := List.pairwise_append.1 ho
    obtain ⟨best, most, hf⟩ := ih h1
    have hord : ∀ q ∈ l, Op.bytesLess q p = true := fun q hq => h2 q hq p (by simp)
    by_cases hc : cand s p
    · by_cases hx : most < (T p : Int) ∨ ((T p : Int) = most ∧ (score : Int) ≤ T p ∧ p = was)
      · exact ⟨_, _, hf.take hc hord hs hx⟩
      · exact ⟨_, _, hf.leave hc hord hx⟩
    · exact ⟨_, _, hf.skip hc⟩
theorem par_spec {w n : Nat} {E : List (List Si)} (hn : 1 ≤ n) {span score : Nat} (hs : 1 ≤ score) {s : List UInt8} (e : Nat) : IsPar w n E span score e s (wasE w n E span score s e) (parE w n E span score s e) := by
  obtain ⟨best, most, hf⟩ := fold_ex (fun p => togE w n E span s p e) score s (wasE w n E span score s e) hs (tagsE E) (ordT_tagsOfL _)
  have hp := hf.par hs fun p _ h0 => by
    obtain ⟨l, hl, hs⟩ := (togE_told hn h0).2
    exact (mem_tagsE E p).2 ⟨l, List.mem_of_mem_take hl, hs⟩
  rw [par_of hp]; exact hp
theorem par_cases {w n : Nat} {E : List (List Si)} (hn : 1 ≤ n) {span score : Nat} (hs : 1 ≤ score) {s : List UInt8} (e : Nat) : parE w n E span score s e = [] ∨ (cand s (parE w n E span score s e) ∧ score ≤ togE w n E span s (parE w n E span score s e) e) := by
  rcases par_spec (w := w) (E := E) (span := span) (s := s) hn hs e with ⟨h, _⟩ | ⟨M, h1, h2, h3, _⟩
  · exact .inl h
  · exact .inr ⟨h2, by omega⟩
theorem tagOf_some {b : List UInt8} (h : 0 < kindOf b) : (tagOf b).isSome = true ∧ ((tagOf b).getD Tg.zero).kind = kindOf b := by
  refine ⟨?_, (kindOf_some b).symm⟩
  unfold kindOf at h
  cases ht : tagOf b with
  | none => rw [ht] at h; simp at h
  | some t => rfl
theorem objAt_fr {h h' : Heap} {b : Nat} {cs : List Value} (hn : h b = none) (ho : objAt h' ⟨b, 0, none⟩ cs) : objAt (fr h h') ⟨b, 0, none⟩ cs := ho.kept fun o hb => by simp [fr, hn, hb]

def S288 : Spec := fun args h K => ∃ w n sp sc v L, args = [.int .i64 w, .int .i64 n, .int .i64 sp, .int .i64 sc, v] ∧ SS h v L ∧ ∀ h', Heap.le h h' → K (.bool true) h'
theorem F288_ok {N : Num} {Γ : Ctx} [GoodC Γ] (H12 : Sat S12 (Γ 12)) (H28 : Sat (S28 N) (Γ 28)) (H44 : Sat (S44 N) (Γ 44)) (H29 : Sat (S29 N) (Γ 29)) (H46 : Sat S46 (Γ 46)) (H54 : Sat (S54 N) (Γ 54)) (H49 : Sat (S49 N) (Γ 49)) (H81 : Sat (S81 N) (Γ 81)) (H30 : Sat (S30 N) (Γ 30)) (H47 : Sat S47 (Γ 47)) : Sat S288 (SF N Γ F288) := by
  rintro _ h K ⟨w, n, sp, sc, v, L, rfl, hL, hK⟩
  refine i_fun rfl ?_
  simp only [F288, env0, List.map, List.length, List.replicate, List.cons_append, List.nil_append, Nat.reduceSub, Nat.reduceAdd]
  try simp (disch := first | omega | (simp only [PL]; omega)) only [PS, P1, P2, P3, P4, P5, P6, P7, P8, PA, PB, PC, Nat.reduceAdd, Nat.reduceSub, Nat.reduceMul, Nat.reduceLeDiff, Nat.reduceEqDiff, Nat.succ_ne_self, reduceCtorEq, Int.reduceToNat, Int.cast_ofNat_Int, Int.reduceEq, Int.reduceNe, Int.reduceLT, Int.reduceLE]
  refine i_newO fun b5 h1 hle1 hb5 ho5' => ?_
  have ho5 : objAt (fr h h1) ⟨b5, 0, none⟩ [.int .i64 sp] := ho5'
  try simp (disch := first | omega | (simp only [PL]; omega)) only [PS, P1, P2, P3, P4, P5, P6, P7, P8, PA, PB, PC, Nat.reduceAdd, Nat.reduceSub, Nat.reduceMul, Nat.reduceLeDiff, Nat.reduceEqDiff, Nat.succ_ne_self, reduceCtorEq, Int.reduceToNat, Int.cast_ofNat_Int, Int.reduceEq, Int.reduceNe, Int.reduceLT, Int.reduceLE]
  refine i_newO fun b6 h2 hle2 hb6 ho6' => ?_
  have ho6 : objAt (fr h1 h2) ⟨b6, 0, none⟩ [.int .i64 sc] := ho6'
  obtain ⟨vs, hv, hvl, hr⟩ := id hL
  have hOne : Cw.one v = true ∧ v.cells = #[v] := by obtain ⟨a, cap, rfl, _⟩ := hv; exact ⟨rfl, rfl⟩
  try simp (disch := first | omega | (simp only [PL]; omega)) only [PS, P1, P2, P3, P4, P5, P6, P7, P8, PA, PB, PC, Nat.reduceAdd, Nat.reduceSub, Nat.reduceMul, Nat.reduceLeDiff, Nat.reduceEqDiff, Nat.succ_ne_self, reduceCtorEq, Int.reduceToNat, Int.cast_ofNat_Int, Int.reduceEq, Int.reduceNe, Int.reduceLT, Int.reduceLE, hOne.1, hOne.2]
  refine i_newO fun b7 h3 hle3 hb7 ho7' => ?_
  have ho7 : objAt (fr h2 h3) ⟨b7, 0, none⟩ [v] := by simpa [hOne.2] using ho7'
  try simp (disch := first | omega | (simp only [PL]; omega)) only [PS, P1, P2, P3, P4, P5, P6, P7, P8, PA, PB, PC, Nat.reduceAdd, Nat.reduceSub, Nat.reduceMul, Nat.reduceLeDiff, Nat.reduceEqDiff, Nat.succ_ne_self, reduceCtorEq, Int.reduceToNat, Int.cast_ofNat_Int, Int.reduceEq, Int.reduceNe, Int.reduceLT, Int.reduceLE]
  refine i_newO fun b8 h4 hle4 hb8 ho8' => ?_
  have ho8 : objAt (fr h3 h4) ⟨b8, 0, none⟩ [.bool false] := ho8'
  have hle14 := hle2.trans (hle3.trans hle4)
  have hleh4 := hle1.trans hle14
  have q5 : objAt h4 ⟨b5, 0, none⟩ [.int .i64 sp] := ho5.le ((fr_le _ _).trans hle14)
  have q6 : objAt h4 ⟨b6, 0, none⟩ [.int .i64 sc] := ho6.le ((fr_le _ _).trans (hle3.trans hle4))
  have q7 : objAt h4 ⟨b7, 0, none⟩ [v] := ho7.le ((fr_le _ _).trans hle4)
  have q8 : objAt h4 ⟨b8, 0, none⟩ [.bool false] := ho8.le (fr_le _ _)
  have hb8h : h b8 = none := le_none (hle1.trans (hle2.trans hle3)) b8 hb8
  have hL4 := hL.le hleh4
  -- the end
  have hend : ∀ (G : Heap), Heap.le h4 G → ∀ (K' : Value → Heap → Prop), (∀ G', G'.cell ⟨b8, 0, none⟩ = some (.bool true) → Heap.le h G' → K' undef G') → efW N Γ (.st 1) [.pointer (some ⟨b8, 0, none⟩), .bool true] G K' := by
    intro G hG K' hK'
    refine i_st (q8.le hG) 0 1 rfl rfl (by omega) (by simp) fun o hob _ => ?_
    have hob2 : objAt (G.set b8 o) ⟨b8, 0, none⟩ [.bool true] := hob G rfl
    exact hK' _ (hob2.rules.2.1 (by simp)) (but.le (b := b8) (hleh4.trans hG) hb8h fun x hx => Heap.set_ne hx)
  clear ho5' ho6' ho7' ho8' ho5 ho6 ho7 ho8
  have A74 : h4.cell ⟨b7, 0, none⟩ = some v := q7.rules.2.1 (by simp)
  try simp (disch := first | omega | (simp only [PL]; omega)) only [PS, P1, P2, P3, P4, P5, P6, P7, P8, PA, PB, PC, Nat.reduceAdd, Nat.reduceSub, Nat.reduceMul, Nat.reduceLeDiff, Nat.reduceEqDiff, Nat.succ_ne_self, reduceCtorEq, Int.reduceToNat, Int.cast_ofNat_Int, Int.reduceEq, Int.reduceNe, Int.reduceLT, Int.reduceLE, A74]
  refine i_call H12 ⟨v, L, rfl, hL4, fun bb hbb => ?_⟩
  cases bb with
  | false =>
    try simp (disch := first | omega | (simp only [PL]; omega)) only [PS, P1, P2, P3, P4, P5, P6, P7, P8, PA, PB, PC, Nat.reduceAdd, Nat.reduceSub, Nat.reduceMul, Nat.reduceLeDiff, Nat.reduceEqDiff, Nat.succ_ne_self, reduceCtorEq, Int.reduceToNat, Int.cast_ofNat_Int, Int.reduceEq, Int.reduceNe, Int.reduceLT, Int.reduceLE]
    refine hend h4 (Heap.le.refl h4) _ fun G hc hG => ?_
    try simp (disch := first | omega | (simp only [PL]; omega)) only [PS, P1, P2, P3, P4, P5, P6, P7, P8, PA, PB, PC, Nat.reduceAdd, Nat.reduceSub, Nat.reduceMul, Nat.reduceLeDiff, Nat.reduceEqDiff, Nat.succ_ne_self, reduceCtorEq, Int.reduceToNat, Int.cast_ofNat_Int, Int.reduceEq, Int.reduceNe, Int.reduceLT, Int.reduceLE, hc]
    exact hK G hG
  | true =>
  have hli := hbb rfl
  have R4 := (hv.le hleh4).rules1 id (fun _ => rfl) undef
  rw [hvl] at R4
  try simp (disch := first | omega | (simp only [PL]; omega)) only [PS, P1, P2, P3, P4, P5, P6, P7, P8, PA, PB, PC, Nat.reduceAdd, Nat.reduceSub, Nat.reduceMul, Nat.reduceLeDiff, Nat.reduceEqDiff, Nat.succ_ne_self, reduceCtorEq, Int.reduceToNat, Int.cast_ofNat_Int, Int.reduceEq, Int.reduceNe, Int.reduceLT, Int.reduceLE, A74, R4]
  refine i_cond (fun c1 => ?_) (fun c1 => ?_)
  · try simp (disch := first | omega | (simp only [PL]; omega)) only [PS, P1, P2, P3, P4, P5, P6, P7, P8, PA, PB, PC, Nat.reduceAdd, Nat.reduceSub, Nat.reduceMul, Nat.reduceLeDiff, Nat.reduceEqDiff, Nat.succ_ne_self, reduceCtorEq, Int.reduceToNat, Int.cast_ofNat_Int, Int.reduceEq, Int.reduceNe, Int.reduceLT, Int.reduceLE]
    refine hend h4 (Heap.le.refl h4) _ fun G hc hG => ?_
    try simp (disch := first | omega | (simp only [PL]; omega)) only [PS, P1, P2, P3, P4, P5, P6, P7, P8, PA, PB, PC, Nat.reduceAdd, Nat.reduceSub, Nat.reduceMul, Nat.reduceLeDiff, Nat.reduceEqDiff, Nat.succ_ne_self, reduceCtorEq, Int.reduceToNat, Int.cast_ofNat_Int, Int.reduceEq, Int.reduceNe, Int.reduceLT, Int.reduceLE, hc]
    exact hK G hG
  try simp (disch := first | omega | (simp only [PL]; omega)) only [PS, P1, P2, P3, P4, P5, P6, P7, P8, PA, PB, PC, Nat.reduceAdd, Nat.reduceSub, Nat.reduceMul, Nat.reduceLeDiff, Nat.reduceEqDiff, Nat.succ_ne_self, reduceCtorEq, Int.reduceToNat, Int.cast_ofNat_Int, Int.reduceEq, Int.reduceNe, Int.reduceLT, Int.reduceLE]
  refine i_call H28 ⟨w, n, rfl, fun hb h5 hle5 => ?_, fun hb bt h5 hbt hle5 hT => ?_⟩
  · simp only [newBad] at hb
    try simp (disch := first | omega | (simp only [PL]; omega)) only [PS, P1, P2, P3, P4, P5, P6, P7, P8, PA, PB, PC, Nat.reduceAdd, Nat.reduceSub, Nat.reduceMul, Nat.reduceLeDiff, Nat.reduceEqDiff, Nat.succ_ne_self, reduceCtorEq, Int.reduceToNat, Int.cast_ofNat_Int, Int.reduceEq, Int.reduceNe, Int.reduceLT, Int.reduceLE]
    refine i_newO fun b9 h6 hle6 hb9 ho9 => ?_
    try simp (disch := first | omega | (simp only [PL]; omega)) only [PS, P1, P2, P3, P4, P5, P6, P7, P8, PA, PB, PC, Nat.reduceAdd, Nat.reduceSub, Nat.reduceMul, Nat.reduceLeDiff, Nat.reduceEqDiff, Nat.succ_ne_self, reduceCtorEq, Int.reduceToNat, Int.cast_ofNat_Int, Int.reduceEq, Int.reduceNe, Int.reduceLT, Int.reduceLE]
    refine i_st (ho9.le (fr_le _ _)) 0 1 rfl rfl (by omega) (by simp [Value.cells]) fun o hob _ => ?_
    have hcnd : decide (((w < 1 ∨ 8 < w) ∨ n < 1) ∨ w < n) = true := by rw [decide_eq_true_eq]; omega
    try simp (disch := first | omega | (simp only [PL]; omega)) only [PS, P1, P2, P3, P4, P5, P6, P7, P8, PA, PB, PC, Nat.reduceAdd, Nat.reduceSub, Nat.reduceMul, Nat.reduceLeDiff, Nat.reduceEqDiff, Nat.succ_ne_self, reduceCtorEq, Int.reduceToNat, Int.cast_ofNat_Int, Int.reduceEq, Int.reduceNe, Int.reduceLT, Int.reduceLE, errV_succ, hcnd]
    refine hend _ (but.le (b := b9) (hle5.trans hle6) (le_none hle5 b9 hb9) fun x hx => Heap.set_ne hx) _ fun G hc hG => ?_
    try simp (disch := first | omega | (simp only [PL]; omega)) only [PS, P1, P2, P3, P4, P5, P6, P7, P8, PA, PB, PC, Nat.reduceAdd, Nat.reduceSub, Nat.reduceMul, Nat.reduceLeDiff, Nat.reduceEqDiff, Nat.succ_ne_self, reduceCtorEq, Int.reduceToNat, Int.cast_ofNat_Int, Int.reduceEq, Int.reduceNe, Int.reduceLT, Int.reduceLE, hc]
    exact hK G hG
  simp only [newBad] at hb
  generalize hwn : w.toNat = wn at *
  generalize hnn : n.toNat = nn at *
  have hb1 : 1 ≤ wn ∧ wn ≤ 8 ∧ 1 ≤ nn ∧ nn ≤ wn := by omega
  try simp (disch := first | omega | (simp only [PL]; omega)) only [PS, P1, P2, P3, P4, P5, P6, P7, P8, PA, PB, PC, Nat.reduceAdd, Nat.reduceSub, Nat.reduceMul, Nat.reduceLeDiff, Nat.reduceEqDiff, Nat.succ_ne_self, reduceCtorEq, Int.reduceToNat, Int.cast_ofNat_Int, Int.reduceEq, Int.reduceNe, Int.reduceLT, Int.reduceLE]
  refine i_newO fun b9 h6 hle6 hb9 ho9 => ?_
  try simp (disch := first | omega | (simp only [PL]; omega)) only [PS, P1, P2, P3, P4, P5, P6, P7, P8, PA, PB, PC, Nat.reduceAdd, Nat.reduceSub, Nat.reduceMul, Nat.reduceLeDiff, Nat.reduceEqDiff, Nat.succ_ne_self, reduceCtorEq, Int.reduceToNat, Int.cast_ofNat_Int, Int.reduceEq, Int.reduceNe, Int.reduceLT, Int.reduceLE]
  refine i_st (ho9.le (fr_le _ _)) 0 1 rfl rfl (by omega) (by simp [Value.cells]) fun o9 hob9 _ => ?_
  have q9 : objAt (h6.set b9 o9) ⟨b9, 0, none⟩ [.pointer (some ⟨bt, 0, none⟩)] := hob9 h6 rfl
  have hle7 : Heap.le h5 (h6.set b9 o9) := but.le (b := b9) hle6 hb9 fun x hx => Heap.set_ne hx
  generalize h6.set b9 o9 = h7 at *
  have hk5 : K2 h h5 (fr h4 h5) (fun _ => none) h4 := ⟨hleh4, hle5, fr_le _ _, fun _ _ h => (by cases h), fun _ _ => rfl, (disj_fr_of (Heap.le.refl h4)).sym, fun _ h => absurd rfl h⟩
  have hk7 := hk5.freeze hle7
  have q9' := objAt_fr hb9 q9
  have j1 : Heap.le h4 (join h4 (fr h5 h7)) := join_l _ _
  have q9F : objAt (join h4 (fr h5 h7)) ⟨b9, 0, none⟩ [.pointer (some ⟨bt, 0, none⟩)] := q9'.le (join_r (hle5.trans hle7) (fr_le _ _))
  generalize join h4 (fr h5 h7) = F7 at *
  clear ho9 hob9 q9 q9' hk5
  have A9 := fun G (hl : Heap.le F7 G) => ((q9F.le hl).rules.2.1 (by simp) : G.cell ⟨b9, 0, none⟩ = some (.pointer (some ⟨bt, 0, none⟩)))
  have A5 := fun G (hl : Heap.le F7 G) => ((q5.le (j1.trans hl)).rules.2.1 (by simp) : G.cell ⟨b5, 0, none⟩ = some (.int .i64 sp))
  have A6 := fun G (hl : Heap.le F7 G) => ((q6.le (j1.trans hl)).rules.2.1 (by simp) : G.cell ⟨b6, 0, none⟩ = some (.int .i64 sc))
  have A7 := fun G (hl : Heap.le F7 G) => ((q7.le (j1.trans hl)).rules.2.1 (by simp) : G.cell ⟨b7, 0, none⟩ = some v)
  have a97 := A9 h7 hk7.lF
  have a57 := A5 h7 hk7.lF
  have a67 := A6 h7 hk7.lF
  try simp (disch := first | omega | (simp only [PL]; omega)) only [PS, P1, P2, P3, P4, P5, P6, P7, P8, PA, PB, PC, Nat.reduceAdd, Nat.reduceSub, Nat.reduceMul, Nat.reduceLeDiff, Nat.reduceEqDiff, Nat.succ_ne_self, reduceCtorEq, Int.reduceToNat, Int.cast_ofNat_Int, Int.reduceEq, Int.reduceNe, Int.reduceLT, Int.reduceLE, a97, a57, a67]
  refine i_call H44 ⟨bt, wn, nn, sp, sc, rfl, fun hib => ?_, fun hib bx h8 hbx hle8 hI => ?_⟩
  · simp only [inBad] at hib
    try simp (disch := first | omega | (simp only [PL]; omega)) only [PS, P1, P2, P3, P4, P5, P6, P7, P8, PA, PB, PC, Nat.reduceAdd, Nat.reduceSub, Nat.reduceMul, Nat.reduceLeDiff, Nat.reduceEqDiff, Nat.succ_ne_self, reduceCtorEq, Int.reduceToNat, Int.cast_ofNat_Int, Int.reduceEq, Int.reduceNe, Int.reduceLT, Int.reduceLE]
    refine i_newO fun b11 h8 hle8 hb11 ho11 => ?_
    try simp (disch := first | omega | (simp only [PL]; omega)) only [PS, P1, P2, P3, P4, P5, P6, P7, P8, PA, PB, PC, Nat.reduceAdd, Nat.reduceSub, Nat.reduceMul, Nat.reduceLeDiff, Nat.reduceEqDiff, Nat.succ_ne_self, reduceCtorEq, Int.reduceToNat, Int.cast_ofNat_Int, Int.reduceEq, Int.reduceNe, Int.reduceLT, Int.reduceLE]
    refine i_st (ho11.le (fr_le _ _)) 0 1 rfl rfl (by omega) (by simp [Value.cells]) fun o hob _ => ?_
    have hle9 : Heap.le h7 (h8.set b11 o) := but.le (b := b11) hle8 hb11 fun x hx => Heap.set_ne hx
    generalize h8.set b11 o = h9 at *
    have hcnd : decide (((sp < 1 ∨ 8 < sp) ∨ sc < 1) ∨ sp < sc) = true := by rw [decide_eq_true_eq]; omega
    have a59 := A5 h9 (hk7.lF.trans hle9)
    have a69 := A6 h9 (hk7.lF.trans hle9)
    try simp (disch := first | omega | (simp only [PL]; omega)) only [PS, P1, P2, P3, P4, P5, P6, P7, P8, PA, PB, PC, Nat.reduceAdd, Nat.reduceSub, Nat.reduceMul, Nat.reduceLeDiff, Nat.reduceEqDiff, Nat.succ_ne_self, reduceCtorEq, Int.reduceToNat, Int.cast_ofNat_Int, Int.reduceEq, Int.reduceNe, Int.reduceLT, Int.reduceLE, errV_succ, a59, a69, hcnd]
    refine hend _ (j1.trans (hk7.lF.trans hle9)) _ fun G hc hG => ?_
    try simp (disch := first | omega | (simp only [PL]; omega)) only [PS, P1, P2, P3, P4, P5, P6, P7, P8, PA, PB, PC, Nat.reduceAdd, Nat.reduceSub, Nat.reduceMul, Nat.reduceLeDiff, Nat.reduceEqDiff, Nat.succ_ne_self, reduceCtorEq, Int.reduceToNat, Int.cast_ofNat_Int, Int.reduceEq, Int.reduceNe, Int.reduceLT, Int.reduceLE, hc]
    exact hK G hG
  simp only [inBad] at hib
  generalize hspn : sp.toNat = spn at *
  generalize hscn : sc.toNat = scn at *
  have hb2 : 1 ≤ spn ∧ spn ≤ 8 ∧ 1 ≤ scn ∧ scn ≤ spn := by omega
  obtain rfl : sp = (spn : Nat) := by omega
  obtain rfl : sc = (scn : Nat) := by omega
  try simp (disch := first | omega | (simp only [PL]; omega)) only [PS, P1, P2, P3, P4, P5, P6, P7, P8, PA, PB, PC, Nat.reduceAdd, Nat.reduceSub, Nat.reduceMul, Nat.reduceLeDiff, Nat.reduceEqDiff, Nat.succ_ne_self, reduceCtorEq, Int.reduceToNat, Int.cast_ofNat_Int, Int.reduceEq, Int.reduceNe, Int.reduceLT, Int.reduceLE]
  refine i_newO fun b11 h9 hle9 hb11 ho11 => ?_
  try simp (disch := first | omega | (simp only [PL]; omega)) only [PS, P1, P2, P3, P4, P5, P6, P7, P8, PA, PB, PC, Nat.reduceAdd, Nat.reduceSub, Nat.reduceMul, Nat.reduceLeDiff, Nat.reduceEqDiff, Nat.succ_ne_self, reduceCtorEq, Int.reduceToNat, Int.cast_ofNat_Int, Int.reduceEq, Int.reduceNe, Int.reduceLT, Int.reduceLE]
  refine i_st (ho11.le (fr_le _ _)) 0 1 rfl rfl (by omega) (by simp [Value.cells]) fun o11 hob11 _ => ?_
  have q11 : objAt (h9.set b11 o11) ⟨b11, 0, none⟩ [.pointer (some ⟨bx, 0, none⟩)] := hob11 h9 rfl
  have hle10 : Heap.le h8 (h9.set b11 o11) := but.le (b := b11) hle9 hb11 fun x hx => Heap.set_ne hx
  generalize h9.set b11 o11 = h10 at *
  have hk8 : K2 h h8 (fr h4 h5) (fr h7 h8) F7 := ⟨hk7.hF, hk7.lF.trans hle8, hk7.lt.trans hle8, fr_le _ _, disj_fr_of hk7.lt, hk7.dtF, (disj_fr_of hk7.lF).sym⟩
  have hk10 := hk8.freeze hle10
  have q11' := objAt_fr hb11 q11
  have j2 : Heap.le F7 (join F7 (fr h8 h10)) := join_l _ _
  have q11F : objAt (join F7 (fr h8 h10)) ⟨b11, 0, none⟩ [.pointer (some ⟨bx, 0, none⟩)] := q11'.le (join_r (hk8.lF.trans hle10) (fr_le _ _))
  generalize join F7 (fr h8 h10) = F at *
  have B5 := fun G (hl : Heap.le F G) => A5 G (j2.trans hl)
  have B6 := fun G (hl : Heap.le F G) => A6 G (j2.trans hl)
  have B7 := fun G (hl : Heap.le F G) => A7 G (j2.trans hl)
  have B9 := fun G (hl : Heap.le F G) => A9 G (j2.trans hl)
  have B11 := fun G (hl : Heap.le F G) => ((q11F.le hl).rules.2.1 (by simp) : G.cell ⟨b11, 0, none⟩ = some (.pointer (some ⟨bx, 0, none⟩)))
  have h4F : Heap.le h4 F := j1.trans j2
  have hLF : SS F v L := hL4.le h4F
  clear ho11 hob11 q11 q11' hk8 hk7 a97 a57 a67 A5 A6 A7 A9
  have a9 := B9 h10 hk10.lF
  have a11 := B11 h10 hk10.lF
  try simp (disch := first | omega | (simp only [PL]; omega)) only [PS, P1, P2, P3, P4, P5, P6, P7, P8, PA, PB, PC, Nat.reduceAdd, Nat.reduceSub, Nat.reduceMul, Nat.reduceLeDiff, Nat.reduceEqDiff, Nat.succ_ne_self, reduceCtorEq, Int.reduceToNat, Int.cast_ofNat_Int, Int.reduceEq, Int.reduceNe, Int.reduceLT, Int.reduceLE, a9, a11]
  refine i_meet_blk (fun env H => ∃ gt gx, K2 h H gt gx F ∧ TrO gt bt wn nn L ∧ InO gx bx bt wn nn L spn scn L.length ∧ env = [some (.int .i64 w), some (.int .i64 n), some (.int .i64 spn), some (.int .i64 scn), some v, some (.pointer (some ⟨b5, 0, none⟩)), some (.pointer (some ⟨b6, 0, none⟩)), some (.pointer (some ⟨b7, 0, none⟩)), some (.pointer (some ⟨b8, 0, none⟩)), some (.pointer (some ⟨b9, 0, none⟩)), none, some (.pointer (some ⟨b11, 0, none⟩)), none, none, none, none, none, none, none, none, none, none, none, none, none, none, none, none, none, none, none, none, none, none, none, none, none, none, none, none, none, none, none, none, none, none, none, none, none, none, none, none, none, none, none, none, none, none, none, none, none, none, none]) ?_ ?_
  rotate_left
  · refine i_loop (fun i : Nat => [some (.int .i64 w), some (.int .i64 n), some (.int .i64 spn), some (.int .i64 scn), some v, some (.pointer (some ⟨b5, 0, none⟩)), some (.pointer (some ⟨b6, 0, none⟩)), some (.pointer (some ⟨b7, 0, none⟩)), some (.pointer (some ⟨b8, 0, none⟩)), some (.pointer (some ⟨b9, 0, none⟩)), none, some (.pointer (some ⟨b11, 0, none⟩)), some (.int .i64 (i : Nat)), none, none, none, none, none, none, none, none, none, none, none, none, none, none, none, none, none, none, none, none, none, none, none, none, none, none, none, none, none, none, none, none, none, none, none, none, none, none, none, none, none, none, none, none, none, none, none, none, none, none])
      (fun i H => i ≤ L.length ∧ ∃ gt gx, K2 h H gt gx F ∧ TrO gt bt wn nn (L.take i) ∧ InO gx bx bt wn nn (L.take i) spn scn i ∧ ∀ l ∈ L.take i, isGood l) (fun i => L.length - i) 0 (by try simp only [Pe, and_true, true_and, and_self]; rfl) ⟨by omega, _, _, hk10, by simpa using hT, by simpa using hI _, by simp⟩ ?_
    clear hT hI hk10 a9 a11
    rintro i H ⟨hi, gt, gx, hk, hT, hI, hgood⟩
    have R := (hv.le hk.le).rules1 id (fun _ => rfl) undef
    rw [hvl] at R
    have a7 := B7 H hk.lF
    have a9 := B9 H hk.lF
    try simp (disch := first | omega | (simp only [PL]; omega)) only [PS, P1, P2, P3, P4, P5, P6, P7, P8, PA, PB, PC, Nat.reduceAdd, Nat.reduceSub, Nat.reduceMul, Nat.reduceLeDiff, Nat.reduceEqDiff, Nat.succ_ne_self, reduceCtorEq, Int.reduceToNat, Int.cast_ofNat_Int, Int.reduceEq, Int.reduceNe, Int.reduceLT, Int.reduceLE, a7, R]
    refine i_cond (fun c3 => ?_) (fun c3 => ?_)
    rotate_left
    · have : i = L.length := by omega
      subst this
      rw [List.take_length] at hT hI
      try simp (disch := first | omega | (simp only [PL]; omega)) only [PS, P1, P2, P3, P4, P5, P6, P7, P8, PA, PB, PC, Nat.reduceAdd, Nat.reduceSub, Nat.reduceMul, Nat.reduceLeDiff, Nat.reduceEqDiff, Nat.succ_ne_self, reduceCtorEq, Int.reduceToNat, Int.cast_ofNat_Int, Int.reduceEq, Int.reduceNe, Int.reduceLT, Int.reduceLE]
      exact k_meet _ (by try simp only [Pe, and_true, true_and, and_self]) ⟨gt, gx, hk, hT, hI, rfl⟩
    have hi2 : i < L.length := by omega
    have hw : IntKind.i64.wrap ((i : Int) + 1) = ((i + 1 : Nat) : Int) := by rw [w64 (by omega) (by omega)]; omega
    have hrow := (hr i hi2).le hk.le
    have hrl : (L.getD i []).length ≤ 25 := hli.2 _ (getD_mem [] hi2)
    have hnx := take_succ_d [] hi2
    have hel : (L.take i).length = i := by rw [List.length_take]; omega
    try simp (disch := first | omega | (simp only [PL]; omega)) only [PS, P1, P2, P3, P4, P5, P6, P7, P8, PA, PB, PC, Nat.reduceAdd, Nat.reduceSub, Nat.reduceMul, Nat.reduceLeDiff, Nat.reduceEqDiff, Nat.succ_ne_self, reduceCtorEq, Int.reduceToNat, Int.cast_ofNat_Int, Int.reduceEq, Int.reduceNe, Int.reduceLT, Int.reduceLE, a7, a9, R, id]
    refine i_call H29 (S29_all hrow hT hk.lt ⟨by omega, by omega, by omega, fun l hl => ⟨hgood l hl, by have := hli.2 l (List.mem_of_mem_take hl); omega⟩⟩ (by omega) (by omega) fun gt1 H4 hS4 hT4 => ?_)
    have hk4 := hk.stepT hS4
    generalize hrw : L.getD i [] = row at *
    by_cases hg : isGood row
    rotate_left
    · have e1 : errE row = 1 := if_neg hg
      rw [e1]
      try simp (disch := first | omega | (simp only [PL]; omega)) only [PS, P1, P2, P3, P4, P5, P6, P7, P8, PA, PB, PC, Nat.reduceAdd, Nat.reduceSub, Nat.reduceMul, Nat.reduceLeDiff, Nat.reduceEqDiff, Nat.succ_ne_self, reduceCtorEq, Int.reduceToNat, Int.cast_ofNat_Int, Int.reduceEq, Int.reduceNe, Int.reduceLT, Int.reduceLE, errV_succ]
      refine hend _ (h4F.trans hk4.lF) _ fun G hc hG => ?_
      try simp (disch := first | omega | (simp only [PL]; omega)) only [PS, P1, P2, P3, P4, P5, P6, P7, P8, PA, PB, PC, Nat.reduceAdd, Nat.reduceSub, Nat.reduceMul, Nat.reduceLeDiff, Nat.reduceEqDiff, Nat.succ_ne_self, reduceCtorEq, Int.reduceToNat, Int.cast_ofNat_Int, Int.reduceEq, Int.reduceNe, Int.reduceLT, Int.reduceLE, hc]
      exact hK G hG
    have e1 : errE row = 0 := if_pos hg
    have e2 : addE (L.take i) row = L.take (i + 1) := by unfold addE; rw [if_pos hg, hnx]
    rw [e1]
    rw [e2] at hT4
    have hI4 : InO gx bx bt wn nn (L.take (i + 1)) spn scn i := by rw [hnx]; exact hI.more
    have hel1 : (L.take (i + 1)).length = i + 1 := by rw [List.length_take]; omega
    have a11 := B11 H4 hk4.lF
    try simp (disch := first | omega | (simp only [PL]; omega)) only [PS, P1, P2, P3, P4, P5, P6, P7, P8, PA, PB, PC, Nat.reduceAdd, Nat.reduceSub, Nat.reduceMul, Nat.reduceLeDiff, Nat.reduceEqDiff, Nat.succ_ne_self, reduceCtorEq, Int.reduceToNat, Int.cast_ofNat_Int, Int.reduceEq, Int.reduceNe, Int.reduceLT, Int.reduceLE, errV_zero, a11]
    refine i_call H46 ⟨gx, gt1, bx, bt, wn, nn, L.take (i + 1), spn, scn, i, rfl, hI4, hk4.lm, hT4, hk4.lt, hk4.dtm, by omega, by omega, fun l hl => by have := hli.2 l (List.mem_of_mem_take hl); omega, by omega, by omega, by omega, by omega, fun hle => by omega, fun hlt gx1 H6 hS6 hI6 => ?_⟩
    try simp (disch := first | omega | (simp only [PL]; omega)) only [PS, P1, P2, P3, P4, P5, P6, P7, P8, PA, PB, PC, Nat.reduceAdd, Nat.reduceSub, Nat.reduceMul, Nat.reduceLeDiff, Nat.reduceEqDiff, Nat.succ_ne_self, reduceCtorEq, Int.reduceToNat, Int.cast_ofNat_Int, Int.reduceEq, Int.reduceNe, Int.reduceLT, Int.reduceLE, hw]
    refine k_loop (i + 1) (by omega) (by try simp only [Pe, and_true, true_and, and_self]) ⟨by omega, gt1, gx1, hk4.stepM hS6, hT4, hI6, fun l hl => ?_⟩
    rw [hnx, List.mem_append, List.mem_singleton] at hl
    rcases hl with hl | rfl
    · exact hgood l hl
    · exact hg
  clear hT hI hk10 a9 a11
  rintro env H ⟨gt, gx, hk, hT, hI, rfl⟩
  have a9 := B9 H hk.lF
  try simp (disch := first | omega | (simp only [PL]; omega)) only [PS, P1, P2, P3, P4, P5, P6, P7, P8, PA, PB, PC, Nat.reduceAdd, Nat.reduceSub, Nat.reduceMul, Nat.reduceLeDiff, Nat.reduceEqDiff, Nat.succ_ne_self, reduceCtorEq, Int.reduceToNat, Int.cast_ofNat_Int, Int.reduceEq, Int.reduceNe, Int.reduceLT, Int.reduceLE, a9]
  refine i_call H54 ⟨_, rfl, fun b6' H2 hle2 ho6 => ?_⟩
  have hk2 := hk.more hle2
  obtain ⟨mw, wkv, bs, ck, hmw, hMB, hnd, hkeys⟩ := hT.keys
  try simp (disch := first | omega | (simp only [PL]; omega)) only [PS, P1, P2, P3, P4, P5, P6, P7, P8, PA, PB, PC, Nat.reduceAdd, Nat.reduceSub, Nat.reduceMul, Nat.reduceLeDiff, Nat.reduceEqDiff, Nat.succ_ne_self, reduceCtorEq, Int.reduceToNat, Int.cast_ofNat_Int, Int.reduceEq, Int.reduceNe, Int.reduceLT, Int.reduceLE]
  refine i_rfn (ek := encKS) (ev := id) (c := ⟨b6', 0, none⟩) (a := ⟨bt, 0, none⟩) (kv := wkv) (bs := bs) (ck := ck) (mp := mw) rfl ((ho6.le (fr_le _ _)).rules.2.1 (by simp)) (hmw H2 hk2.lt)
    (fun dn G => Heap.le H2 G) (Heap.le.refl H2) (fun dn G hJ => hMB.le (hk2.lt.trans hJ)) ?_ ?_
  · rintro dn G hG hdn hds hall
    have kG := hk2.more hG
    have a7 := B7 G kG.lF
    have a11 := B11 G kG.lF
    have R := (hv.le kG.le).rules1 id (fun _ => rfl) undef
    rw [hvl] at R
    try simp (disch := first | omega | (simp only [PL]; omega)) only [PS, P1, P2, P3, P4, P5, P6, P7, P8, PA, PB, PC, Nat.reduceAdd, Nat.reduceSub, Nat.reduceMul, Nat.reduceLeDiff, Nat.reduceEqDiff, Nat.succ_ne_self, reduceCtorEq, Int.reduceToNat, Int.cast_ofNat_Int, Int.reduceEq, Int.reduceNe, Int.reduceLT, Int.reduceLE, a7, a11, R]
    refine i_call H47 ⟨gx, bx, bt, wn, nn, L, spn, scn, L.length, rfl, hI, kG.lm, ?_⟩
    refine i_le (le_one (Heap.le.refl _)) ?_
    try simp (disch := first | omega | (simp only [PL]; omega)) only [PS, P1, P2, P3, P4, P5, P6, P7, P8, PA, PB, PC, Nat.reduceAdd, Nat.reduceSub, Nat.reduceMul, Nat.reduceLeDiff, Nat.reduceEqDiff, Nat.succ_ne_self, reduceCtorEq, Int.reduceToNat, Int.cast_ofNat_Int, Int.reduceEq, Int.reduceNe, Int.reduceLT, Int.reduceLE]
    refine hend _ (h4F.trans kG.lF) _ fun G' hc hG' => ?_
    try simp (disch := first | omega | (simp only [PL]; omega)) only [PS, P1, P2, P3, P4, P5, P6, P7, P8, PA, PB, PC, Nat.reduceAdd, Nat.reduceSub, Nat.reduceMul, Nat.reduceLeDiff, Nat.reduceEqDiff, Nat.succ_ne_self, reduceCtorEq, Int.reduceToNat, Int.cast_ofNat_Int, Int.reduceEq, Int.reduceNe, Int.reduceLT, Int.reduceLE, hc]
    exact hK G' hG'
  · rintro dn G j b key val hG hdn hds hj hb hnb
    have htk : toldE L key := (hkeys key).1 (List.mem_map.2 ⟨_, List.mem_of_getElem? hj, rfl⟩)
    try simp (disch := first | omega | (simp only [PL]; omega)) only [PS, P1, P2, P3, P4, P5, P6, P7, P8, PA, PB, PC, Nat.reduceAdd, Nat.reduceSub, Nat.reduceMul, Nat.reduceLeDiff, Nat.reduceEqDiff, Nat.succ_ne_self, reduceCtorEq, Int.reduceToNat, Int.cast_ofNat_Int, Int.reduceEq, Int.reduceNe, Int.reduceLT, Int.reduceLE, rf_rules, encKS]
    refine i_loop (fun e : Nat => [some (.int .i64 w), some (.int .i64 n), some (.int .i64 spn), some (.int .i64 scn), some v, some (.pointer (some ⟨b5, 0, none⟩)), some (.pointer (some ⟨b6, 0, none⟩)), some (.pointer (some ⟨b7, 0, none⟩)), some (.pointer (some ⟨b8, 0, none⟩)), some (.pointer (some ⟨b9, 0, none⟩)), none, some (.pointer (some ⟨b11, 0, none⟩)), none, some (.string (str key)), some (.int .i64 (e : Nat)), none, none, none, none, none, none, none, none, none, none, none, none, none, none, none, none, none, none, none, none, none, none, none, none, none, none, none, none, none, none, none, none, none, none, none, none, none, none, none, none, none, none, none, none, none, none, none, none]) (fun e G1 => e ≤ L.length ∧ Heap.le H2 G1) (fun e => L.length - e) 0 (by try simp only [Pe, and_true, true_and, and_self]; rfl) ⟨by omega, hG⟩ ?_
    rintro e G1 ⟨he, hG1⟩
    have k1 := hk2.more hG1
    have a7 := B7 G1 k1.lF
    have a11 := B11 G1 k1.lF
    have R := (hv.le k1.le).rules1 id (fun _ => rfl) undef
    rw [hvl] at R
    have hwe : IntKind.i64.wrap ((e : Int) + 1) = ((e + 1 : Nat) : Int) := by rw [w64 (by omega) (by omega)]; omega
    try simp (disch := first | omega | (simp only [PL]; omega)) only [PS, P1, P2, P3, P4, P5, P6, P7, P8, PA, PB, PC, Nat.reduceAdd, Nat.reduceSub, Nat.reduceMul, Nat.reduceLeDiff, Nat.reduceEqDiff, Nat.succ_ne_self, reduceCtorEq, Int.reduceToNat, Int.cast_ofNat_Int, Int.reduceEq, Int.reduceNe, Int.reduceLT, Int.reduceLE, a7, R]
    refine i_cond (fun c3 => ?_) (fun c3 => ?_)
    rotate_left
    · try simp (disch := first | omega | (simp only [PL]; omega)) only [PS, P1, P2, P3, P4, P5, P6, P7, P8, PA, PB, PC, Nat.reduceAdd, Nat.reduceSub, Nat.reduceMul, Nat.reduceLeDiff, Nat.reduceEqDiff, Nat.succ_ne_self, reduceCtorEq, Int.reduceToNat, Int.cast_ofNat_Int, Int.reduceEq, Int.reduceNe, Int.reduceLT, Int.reduceLE, rf_rules]
      exact hG1
    have he2 : e < L.length := by omega
    try simp (disch := first | omega | (simp only [PL]; omega)) only [PS, P1, P2, P3, P4, P5, P6, P7, P8, PA, PB, PC, Nat.reduceAdd, Nat.reduceSub, Nat.reduceMul, Nat.reduceLeDiff, Nat.reduceEqDiff, Nat.succ_ne_self, reduceCtorEq, Int.reduceToNat, Int.cast_ofNat_Int, Int.reduceEq, Int.reduceNe, Int.reduceLT, Int.reduceLE, a11]
    refine i_call H49 ⟨gx, bx, bt, wn, nn, L, spn, scn, L.length, key, e, rfl, hI, k1.lm, fun hx => by omega, fun e' hee hel => ?_⟩
    obtain rfl : e = e' := by omega
    try simp (disch := first | omega | (simp only [PL]; omega)) only [PS, P1, P2, P3, P4, P5, P6, P7, P8, PA, PB, PC, Nat.reduceAdd, Nat.reduceSub, Nat.reduceMul, Nat.reduceLeDiff, Nat.reduceEqDiff, Nat.succ_ne_self, reduceCtorEq, Int.reduceToNat, Int.cast_ofNat_Int, Int.reduceEq, Int.reduceNe, Int.reduceLT, Int.reduceLE]
    rcases par_cases (w := wn) (n := nn) (E := L) (span := spn) (score := scn) (s := key) (by omega) (by omega) e with hp0 | ⟨hcd, htg⟩
    · rw [hp0]
      try simp (disch := first | omega | (simp only [PL]; omega)) only [PS, P1, P2, P3, P4, P5, P6, P7, P8, PA, PB, PC, Nat.reduceAdd, Nat.reduceSub, Nat.reduceMul, Nat.reduceLeDiff, Nat.reduceEqDiff, Nat.succ_ne_self, reduceCtorEq, Int.reduceToNat, Int.cast_ofNat_Int, Int.reduceEq, Int.reduceNe, Int.reduceLT, Int.reduceLE, hwe]
      exact k_loop (e + 1) (by omega) (by try simp only [Pe, and_true, true_and, and_self]) ⟨by omega, hG1⟩
    have hpne := hcd.ne
    generalize parE wn nn L spn scn key e = p at *
    have hpt : toldE L p := by
      obtain ⟨l, hl, hs⟩ := (togE_told (by omega) (show 0 < togE wn nn L spn key p e by omega)).2
      exact ⟨l, List.mem_of_mem_take hl, hs⟩
    have hpn : (p = []) = False := by simpa using hpne
    obtain ⟨hk1, hk2'⟩ := tagOf_some hcd.1
    obtain ⟨hp1, hp2⟩ := tagOf_some (b := p) (by have := hcd.1; have := hcd.2; omega)
    try simp (disch := first | omega | (simp only [PL]; omega)) only [PS, P1, P2, P3, P4, P5, P6, P7, P8, PA, PB, PC, Nat.reduceAdd, Nat.reduceSub, Nat.reduceMul, Nat.reduceLeDiff, Nat.reduceEqDiff, Nat.succ_ne_self, reduceCtorEq, Int.reduceToNat, Int.cast_ofNat_Int, Int.reduceEq, Int.reduceNe, Int.reduceLT, Int.reduceLE, hpn]
    refine i_call H81 ⟨key, rfl, fun G2 hle3 => ?_⟩
    rw [hk1]
    unfold tgV aggT
    simp only [if_true, errV_zero]
    rw [hk2']
    try simp (disch := first | omega | (simp only [PL]; omega)) only [PS, P1, P2, P3, P4, P5, P6, P7, P8, PA, PB, PC, Nat.reduceAdd, Nat.reduceSub, Nat.reduceMul, Nat.reduceLeDiff, Nat.reduceEqDiff, Nat.succ_ne_self, reduceCtorEq, Int.reduceToNat, Int.cast_ofNat_Int, Int.reduceEq, Int.reduceNe, Int.reduceLT, Int.reduceLE]
    refine i_newO fun b17 G3 hle4 hb17 ho17 => ?_
    try simp (disch := first | omega | (simp only [PL]; omega)) only [PS, P1, P2, P3, P4, P5, P6, P7, P8, PA, PB, PC, Nat.reduceAdd, Nat.reduceSub, Nat.reduceMul, Nat.reduceLeDiff, Nat.reduceEqDiff, Nat.succ_ne_self, reduceCtorEq, Int.reduceToNat, Int.cast_ofNat_Int, Int.reduceEq, Int.reduceNe, Int.reduceLT, Int.reduceLE]
    refine i_st (ho17.le (fr_le _ _)) 0 6 rfl rfl (by omega) (Nat.le_refl 6) fun o17 hob17 _ => ?_
    have q17 : objAt (G3.set b17 o17) ⟨b17, 0, none⟩ [.int .i64 (kindOf key), .int .i64 ((tagOf key).getD Tg.zero).filter, .int .i64 ((tagOf key).getD Tg.zero).part, .int .i64 ((tagOf key).getD Tg.zero).company, .int .i64 ((tagOf key).getD Tg.zero).ref, .int .i64 ((tagOf key).getD Tg.zero).serial] := hob17 G3 rfl
    have hle5' : Heap.le G1 (G3.set b17 o17) := but.le (b := b17) (hle3.trans hle4) (le_none hle3 b17 hb17) fun x hx => Heap.set_ne hx
    generalize G3.set b17 o17 = G4 at *
    try simp (disch := first | omega | (simp only [PL]; omega)) only [PS, P1, P2, P3, P4, P5, P6, P7, P8, PA, PB, PC, Nat.reduceAdd, Nat.reduceSub, Nat.reduceMul, Nat.reduceLeDiff, Nat.reduceEqDiff, Nat.succ_ne_self, reduceCtorEq, Int.reduceToNat, Int.cast_ofNat_Int, Int.reduceEq, Int.reduceNe, Int.reduceLT, Int.reduceLE]
    refine i_call H81 ⟨p, rfl, fun G5 hle6 => ?_⟩
    rw [hp1]
    unfold tgV aggT
    simp only [if_true, errV_zero]
    rw [hp2]
    try simp (disch := first | omega | (simp only [PL]; omega)) only [PS, P1, P2, P3, P4, P5, P6, P7, P8, PA, PB, PC, Nat.reduceAdd, Nat.reduceSub, Nat.reduceMul, Nat.reduceLeDiff, Nat.reduceEqDiff, Nat.succ_ne_self, reduceCtorEq, Int.reduceToNat, Int.cast_ofNat_Int, Int.reduceEq, Int.reduceNe, Int.reduceLT, Int.reduceLE]
    refine i_newO fun b19 G6 hle7' hb19 ho19 => ?_
    try simp (disch := first | omega | (simp only [PL]; omega)) only [PS, P1, P2, P3, P4, P5, P6, P7, P8, PA, PB, PC, Nat.reduceAdd, Nat.reduceSub, Nat.reduceMul, Nat.reduceLeDiff, Nat.reduceEqDiff, Nat.succ_ne_self, reduceCtorEq, Int.reduceToNat, Int.cast_ofNat_Int, Int.reduceEq, Int.reduceNe, Int.reduceLT, Int.reduceLE]
    refine i_st (ho19.le (fr_le _ _)) 0 6 rfl rfl (by omega) (Nat.le_refl 6) fun o19 hob19 _ => ?_
    have q19 : objAt (G6.set b19 o19) ⟨b19, 0, none⟩ [.int .i64 (kindOf p), .int .i64 ((tagOf p).getD Tg.zero).filter, .int .i64 ((tagOf p).getD Tg.zero).part, .int .i64 ((tagOf p).getD Tg.zero).company, .int .i64 ((tagOf p).getD Tg.zero).ref, .int .i64 ((tagOf p).getD Tg.zero).serial] := hob19 G6 rfl
    have hle8' : Heap.le G4 (G6.set b19 o19) := but.le (b := b19) (hle6.trans hle7') (le_none hle6 b19 hb19) fun x hx => Heap.set_ne hx
    generalize G6.set b19 o19 = G7 at *
    have C17 : G7.cell ((⟨b17, 0, none⟩ : Addr).add 0) = some (.int .i64 (kindOf key)) := (q17.le hle8').rules.1 0 (by simp)
    have C19 : G7.cell ((⟨b19, 0, none⟩ : Addr).add 0) = some (.int .i64 (kindOf p)) := q19.rules.1 0 (by simp)
    have hle17 := hle5'.trans hle8'
    have hG7 := hG1.trans hle17
    have k7 := hk2.more hG7
    have a57 := B5 G7 k7.lF
    have a67 := B6 G7 k7.lF
    have a97 := B9 G7 k7.lF
    have hc54 : (kindOf p ≤ kindOf key) = False := by have := hcd.2; rw [eq_iff_iff]; simp; omega
    have hmax : max 0 (IntKind.i64.wrap (IntKind.i64.wrap ((e : Int) - spn) + 1)) = ((e + 1 - spn : Nat) : Int) := by rw [w64 (n := (e : Int) - spn) (by omega) (by omega), w64 (by omega) (by omega)]; omega
    try simp (disch := first | omega | (simp only [PL]; omega)) only [PS, P1, P2, P3, P4, P5, P6, P7, P8, PA, PB, PC, Nat.reduceAdd, Nat.reduceSub, Nat.reduceMul, Nat.reduceLeDiff, Nat.reduceEqDiff, Nat.succ_ne_self, reduceCtorEq, Int.reduceToNat, Int.cast_ofNat_Int, Int.reduceEq, Int.reduceNe, Int.reduceLT, Int.reduceLE, C17, C19, hc54, a57, hmax]
    have hwh : ∀ t k, toldE L t → k < L.length → whr wn nn L t (k : Nat) = (atF wn nn L k t, 0) := by
      intro t k ht hk
      unfold whr
      rw [if_neg (by omega), if_pos ht, Int.toNat_natCast]; rfl
    refine i_loop (fun k : Nat => [some (.int .i64 w), some (.int .i64 n), some (.int .i64 spn), some (.int .i64 scn), some v, some (.pointer (some ⟨b5, 0, none⟩)), some (.pointer (some ⟨b6, 0, none⟩)), some (.pointer (some ⟨b7, 0, none⟩)), some (.pointer (some ⟨b8, 0, none⟩)), some (.pointer (some ⟨b9, 0, none⟩)), none, some (.pointer (some ⟨b11, 0, none⟩)), none, some (.string (str key)), some (.int .i64 (e : Nat)), some (.string (str p)), none, none, none, none, none, some (.int .i64 (togN wn nn L key p (e + 1 - spn) k : Nat)), some (.int .i64 (k : Nat)), none, none, none, none, none, none, none, none, none, none, none, none, none, none, none, none, none, none, none, none, none, none, none, none, none, none, none, none, none, none, none, none, none, none, none, none, none, none, none, none]) (fun k G => e + 1 - spn ≤ k ∧ k ≤ e + 1 ∧ G = G7) (fun k => e + 1 - k) (e + 1 - spn) (by rw [togN_lo _ (Nat.le_refl _)]; try simp only [Pe, and_true, true_and, and_self]; rfl) ⟨by omega, by omega, rfl⟩ ?_
    rintro k G8 ⟨hm1, hm2, rfl⟩
    have htl := togN_le (w := wn) (n := nn) (E := L) (a := key) (b := p) (lo := e + 1 - spn) k
    have hwk : IntKind.i64.wrap ((k : Int) + 1) = ((k + 1 : Nat) : Int) := by rw [w64 (by omega) (by omega)]; omega
    try simp (disch := first | omega | (simp only [PL]; omega)) only [PS, P1, P2, P3, P4, P5, P6, P7, P8, PA, PB, PC, Nat.reduceAdd, Nat.reduceSub, Nat.reduceMul, Nat.reduceLeDiff, Nat.reduceEqDiff, Nat.succ_ne_self, reduceCtorEq, Int.reduceToNat, Int.cast_ofNat_Int, Int.reduceEq, Int.reduceNe, Int.reduceLT, Int.reduceLE]
    refine i_cond (fun c4 => ?_) (fun c4 => ?_)
    rotate_left
    · have : k = e + 1 := by omega
      subst this
      have hfin : (((togN wn nn L key p (e + 1 - spn) (e + 1) : Nat) : Int) < (scn : Int)) = False := by
        have : togE wn nn L spn key p e = togN wn nn L key p (e + 1 - spn) (e + 1) := rfl
        rw [eq_iff_iff]; simp; omega
      try simp (disch := first | omega | (simp only [PL]; omega)) only [PS, P1, P2, P3, P4, P5, P6, P7, P8, PA, PB, PC, Nat.reduceAdd, Nat.reduceSub, Nat.reduceMul, Nat.reduceLeDiff, Nat.reduceEqDiff, Nat.succ_ne_self, reduceCtorEq, Int.reduceToNat, Int.cast_ofNat_Int, Int.reduceEq, Int.reduceNe, Int.reduceLT, Int.reduceLE, a67, hfin, hwe]
      exact k_loop (e + 1) (by omega) (by try simp only [Pe, and_true, true_and, and_self]) ⟨by omega, hG7⟩
    have hm3 : k ≤ e := by omega
    try simp (disch := first | omega | (simp only [PL]; omega)) only [PS, P1, P2, P3, P4, P5, P6, P7, P8, PA, PB, PC, Nat.reduceAdd, Nat.reduceSub, Nat.reduceMul, Nat.reduceLeDiff, Nat.reduceEqDiff, Nat.succ_ne_self, reduceCtorEq, Int.reduceToNat, Int.cast_ofNat_Int, Int.reduceEq, Int.reduceNe, Int.reduceLT, Int.reduceLE, a97]
    refine i_call H30 (S30_whr hT k7.lt ?_)
    rw [hwh key k htk (by omega)]
    try simp (disch := first | omega | (simp only [PL]; omega)) only [PS, P1, P2, P3, P4, P5, P6, P7, P8, PA, PB, PC, Nat.reduceAdd, Nat.reduceSub, Nat.reduceMul, Nat.reduceLeDiff, Nat.reduceEqDiff, Nat.succ_ne_self, reduceCtorEq, Int.reduceToNat, Int.cast_ofNat_Int, Int.reduceEq, Int.reduceNe, Int.reduceLT, Int.reduceLE, a97]
    refine i_call H30 (S30_whr hT k7.lt ?_)
    rw [hwh p k hpt (by omega)]
    try simp (disch := first | omega | (simp only [PL]; omega)) only [PS, P1, P2, P3, P4, P5, P6, P7, P8, PA, PB, PC, Nat.reduceAdd, Nat.reduceSub, Nat.reduceMul, Nat.reduceLeDiff, Nat.reduceEqDiff, Nat.succ_ne_self, reduceCtorEq, Int.reduceToNat, Int.cast_ofNat_Int, Int.reduceEq, Int.reduceNe, Int.reduceLT, Int.reduceLE]
    refine i_cond (fun c5 => ?_) (fun c5 => ?_)
    · have hn : togN wn nn L key p (e + 1 - spn) (k + 1) = togN wn nn L key p (e + 1 - spn) k + 1 := by
        rw [togN_succ hm1, tog1, if_pos c5]
      have hw2 : IntKind.i64.wrap ((togN wn nn L key p (e + 1 - spn) k : Int) + 1) = ((togN wn nn L key p (e + 1 - spn) (k + 1) : Nat) : Int) := by rw [hn, w64 (by omega) (by omega)]; omega
      try simp (disch := first | omega | (simp only [PL]; omega)) only [PS, P1, P2, P3, P4, P5, P6, P7, P8, PA, PB, PC, Nat.reduceAdd, Nat.reduceSub, Nat.reduceMul, Nat.reduceLeDiff, Nat.reduceEqDiff, Nat.succ_ne_self, reduceCtorEq, Int.reduceToNat, Int.cast_ofNat_Int, Int.reduceEq, Int.reduceNe, Int.reduceLT, Int.reduceLE, hwk, hw2]
      exact k_loop (k + 1) (by omega) (by try simp only [Pe, and_true, true_and, and_self]) ⟨by omega, by omega, rfl⟩
    · have hn : togN wn nn L key p (e + 1 - spn) (k + 1) = togN wn nn L key p (e + 1 - spn) k := by
        rw [togN_succ hm1, tog1, if_neg c5]; rfl
      try simp (disch := first | omega | (simp only [PL]; omega)) only [PS, P1, P2, P3, P4, P5, P6, P7, P8, PA, PB, PC, Nat.reduceAdd, Nat.reduceSub, Nat.reduceMul, Nat.reduceLeDiff, Nat.reduceEqDiff, Nat.succ_ne_self, reduceCtorEq, Int.reduceToNat, Int.cast_ofNat_Int, Int.reduceEq, Int.reduceNe, Int.reduceLT, Int.reduceLE, hwk]
      exact k_loop (k + 1) (by omega) (by rw [hn]; try simp only [Pe, and_true, true_and, and_self]) ⟨by omega, by omega, rfl⟩
end Go.Cw
/- Go's own sorting of strings, as a contract. -/
namespace Go.Cw
open Go

theorem flatT_get (l : List (List UInt8)) (i : Nat) : (l.flatMap encT)[i]? = (l[i]?).map fun s => .string (str s) := by
  induction l generalizing i with
  | nil => simp
  | cons x l ih =>
    cases i with
    | zero => simp [encT]
    | succ i => simp only [List.flatMap_cons, encT, List.cons_append, List.nil_append, List.getElem?_cons_succ]; exact ih i
theorem Heap.set_self' {h : Heap} {b : Nat} {o : Obj} : (h.set b o) b = some o := by simp [Heap.set]
theorem c67_of {P : Program} {ρ : Go.Shelf.Ren} (Ly : Go.Proofs.Lays.n192 P ρ) : ∀ args h K, S67 args h K → ∀ w, h.sub w → Calls P (ρ.f 192) args.toArray w fun e w' => ∃ v h', e = .returned v ∧ K v h' ∧ WStep h h' w w' := by
  rintro _ h K ⟨v, l, rfl, ⟨a, cap, rfl, h1, h2, h3⟩, hl, hK⟩ w hs
  by_cases hn : l = []
  · subst hn
    refine (Go.Proofs.Any.sort_Strings_none Ly a cap w).mono ?_
    rintro e w' ⟨rfl, rfl⟩
    refine ⟨_, h, rfl, hK h ⟨a, cap, by simp [srt], by simp [srt], h2, ?_⟩ fun b o hb _ => hb, WStep.refl hs⟩
    rcases h3 with ⟨q1, _, q2⟩ | h3
    · exact .inl ⟨q1, by simp [srt], q2⟩
    · exact .inr (by simpa [srt] using h3)
  rcases h3 with ⟨_, e, _⟩ | ⟨b, c, t, rfl, hb, hcs, hc⟩
  · exact absurd e hn
  have hwb := hs b _ hb
  have hfl : (l.flatMap encT).length = l.length := by rw [flat_len (enc := encT) (sz := 1) (fun _ => rfl)]; omega
  have hH : Go.Sort.Holds Go.Proofs.encStr w b 0 l.toArray := by
    intro j hj
    have hj' : j < l.length := by simpa using hj
    constructor
    · have := hc j (by rw [hfl]; exact hj')
      rw [flatT_get, List.getElem?_eq_getElem hj'] at this
      simp only [World.cell?, hwb, Nat.zero_add]
      rw [this]
      simp [hj', Go.Proofs.encStr, str]
    · simp [World.frozen?, hwb]
  refine (Go.Proofs.Any.sort_Strings Ly b 0 cap l w hH (Array.getElem?_eq_some_iff.1 hwb).1 (by omega)).mono ?_
  rintro e w' ⟨rfl, n, os, rfl⟩
  have hlen : (srt l).length = l.length := srt_len
  have hsz : (Go.Sort.putCells Go.Proofs.encStr 0 (srt l).toArray c).size = c.size := by simp [Go.Sort.putCells]
  refine ⟨_, h.set b (.cells (Go.Sort.putCells Go.Proofs.encStr 0 (srt l).toArray c) t (0, 0)), rfl, hK _ ⟨some ⟨b, 0, none⟩, cap, by rw [hlen], by rw [hlen]; exact h1, h2, .inr ⟨b, _, t, rfl, Heap.set_self', by rw [hsz]; exact hcs, fun i hi => ?_⟩⟩ fun x o hx hne => ?_, ⟨fun x o hx => ?_, ?_, rfl, rfl, rfl, fun x hx hn => ⟨?_, ?_⟩⟩⟩
  · have hi' : i < (srt l).length := by rwa [flat_len (enc := encT) (sz := 1) (fun _ => rfl), Nat.mul_one] at hi
    rw [flatT_get, List.getElem?_eq_getElem hi']
    have hic : i < c.size := by omega
    simp only [Go.Sort.putCells, Array.getElem?_mapIdx, Array.getElem?_eq_getElem hic, Option.map_some]
    rw [if_pos ⟨by omega, by simpa using hi'⟩]
    have hi2 : i < l.length := by omega
    simp [hi', Go.Proofs.encStr, str, List.getElem?_eq_getElem hi']
  · have : x ≠ b := by rintro rfl; exact hne rfl
    rw [Heap.set_ne this]; exact hx
  · by_cases e : x = b
    · subst e
      rw [Heap.set_self'] at hx
      cases hx
      have hlt := (Array.getElem?_eq_some_iff.1 hwb).1
      rw [Go.Sort.heap_grow_old _ _ (by rw [Go.Sort.size_putRow]; exact hlt)]
      simp [Go.Sort.putRow, Go.Sort.mapBlock, Go.Sort.ahead, Array.getElem?_modify, hwb, Go.Sort.onCells]
    · rw [Heap.set_ne e] at hx
      have hwx := hs x o hx
      have hlt := (Array.getElem?_eq_some_iff.1 hwx).1
      rw [Go.Sort.heap_grow_old _ _ (by rw [Go.Sort.size_putRow]; exact hlt)]
      simp [Go.Sort.putRow, Go.Sort.mapBlock, Go.Sort.ahead, Array.getElem?_modify, hwx, Ne.symm e]
  · rw [Go.Sort.size_grow, Go.Sort.size_putRow]; simp
  · have : x ≠ b := by rintro rfl; rw [hn] at hb; cases hb
    rw [Heap.set_ne this]; exact hn
  · have e : x ≠ b := by rintro rfl; rw [hn] at hb; cases hb
    rw [Go.Sort.heap_grow_old _ _ (by rw [Go.Sort.size_putRow]; exact hx)]
    simp [Go.Sort.putRow, Go.Sort.mapBlock, Go.Sort.ahead, Array.getElem?_modify, Ne.symm e]
end Go.Cw
/- From a row's data to what lies in memory. -/
namespace Go.Cw
open Go

inductive Ty where
  | int | str | bool | nil
  | cons (a b : Ty)
  | sl (e : Ty)
  deriving DecidableEq
def Ty.size : Ty → Nat
  | .int | .str | .bool | .sl _ => 1
  | .nil => 0
  | .cons a b => a.size + b.size

/-- all that lies in memory -/
def full (w : World) : Heap := fun b => w.heap[b]?
theorem full_sub (w : World) : (full w).sub w := fun _ _ h => h

def Mat (w : World) : Ty → List Value → Prop
  | .int, cs => ∃ n, cs = [.int .i64 n] ∧ (Lit.int .i64 n).wf = true
  | .str, cs => ∃ s, cs = [.string s] ∧ s.size ≤ maxLen
  | .bool, cs => ∃ b, cs = [.bool b]
  | .nil, cs => cs = []
  | .cons a b, cs => ∃ x y, cs = x ++ y ∧ Mat w a x ∧ Mat w b y
  | .sl e, cs => ∃ a n cap, cs = [.slice a n cap] ∧ n ≤ cap ∧ cap ≤ maxLen ∧ (n = 0 ∨ ∃ g, a = some g ∧ ∃ rows : List (List Value), rows.length = n ∧ rowAt (full w) g rows.flatten ∧ ∀ r ∈ rows, Mat w e r)

def chkFs (P : Program) (chk : TypeId → Ty → Bool) : List Field → Nat → Ty → Bool
  | [], _, .nil => true
  | f :: r, off, .cons a b => f.offset == off && P.cellsOf f.type == a.size && chk f.type a && chkFs P chk r (off + a.size) b
  | _, _, _ => false
def chkAr (P : Program) (chk : TypeId → Ty → Bool) (e : TypeId) : Nat → Ty → Bool
  | 0, .nil => true
  | n + 1, .cons a b => P.cellsOf e == a.size && chk e a && chkAr P chk e n b
  | _, _ => false
/-- is a type laid so? -/
def chk (P : Program) : Nat → TypeId → Ty → Bool
  | 0, _, _ => false
  | n + 1, t, ty =>
    match P.underlying t with
    | some (.int .i64) => ty == .int
    | some .string => ty == .str
    | some .bool => ty == .bool
    | some (.slice e) =>
      match ty with
      | .sl x => P.cellsOf e == x.size && decide (0 < x.size) && chk P n e x
      | _ => false
    | some (.struct fs) => P.cellsOf t == ty.size && chkFs P (chk P n) fs.toList 0 ty
    | some (.array k e) => P.cellsOf t == ty.size && chkAr P (chk P n) e k ty
    | _ => false

theorem mapM_some {α β : Type} {f : α → Option β} : ∀ {l : List α} {r : List β}, l.mapM f = some r → r.length = l.length ∧ ∀ i (h : i < l.length) (h' : i < r.length), f l[i] = some r[i] := by
  intro l
  induction l with
  | nil => intro r h; simp at h; subst h; simp
  | cons a l ih =>
    intro r h
    simp only [List.mapM_cons, Option.bind_eq_bind, Option.bind_eq_some_iff, Option.pure_def, Option.some.injEq] at h
    obtain ⟨y, h1, ys, h2, rfl⟩ := h
    obtain ⟨h3, h4⟩ := ih h2
    refine ⟨by simp [h3], fun i hi hi' => ?_⟩
    cases i with
    | zero => simpa using h1
    | succ i => simpa using h4 i (by simpa using hi) (by simpa using hi')

theorem cells_row {w : World} {a : Addr} {n : Nat} {cs : List Value} (h : w.cells? 0 a n = some cs) (hn : 0 < n) : cs.length = n ∧ a.spot = none ∧ ∀ i (hi : i < cs.length), w.cell? (a.add i) = some cs[i] := by
  simp only [World.cells?, Nat.zero_le, if_true] at h
  obtain ⟨h1, h2⟩ := mapM_some h
  have hl : cs.length = n := by simpa using h1
  refine ⟨hl, ?_, fun i hi => ?_⟩
  · have h3 := h2 0 (by simpa using hn) (by omega)
    simp only [List.getElem_range, addr_zero] at h3
    exact World.cell?_spot h3
  · have := h2 i (by simpa using by omega) hi
    simpa using this

theorem row_of_cells {w : World} {a : Addr} {cs : List Value} (hs : a.spot = none) (h : ∀ i (hi : i < cs.length), w.cell? (a.add i) = some cs[i]) (hne : cs ≠ []) : rowAt (full w) a cs := by
  have hb : ∀ i (hi : i < cs.length), ∃ c t fz, w.heap[a.block]? = some (.cells c t fz) ∧ c[a.off + i]? = some cs[i] := by
    intro i hi
    have h1 := h i hi
    rw [addr_add' a hs] at h1
    simp only [World.cell?] at h1
    split at h1
    · rename_i c t fz hh; exact ⟨c, t, fz, hh, by simpa using h1⟩
    · cases h1
  have hl : 0 < cs.length := List.length_pos_iff.2 hne
  obtain ⟨c, t, fz, h1, _⟩ := hb 0 hl
  refine ⟨hs, c, t, fz, h1, ?_, ?_⟩
  · obtain ⟨c', t', fz', h2, h3⟩ := hb (cs.length - 1) (by omega)
    rw [h1] at h2; cases h2
    have := (Array.getElem?_eq_some_iff.1 h3).1
    omega
  · intro i hi
    obtain ⟨c', t', fz', h2, h3⟩ := hb i hi
    rw [h1] at h2; cases h2
    rw [h3, List.getElem?_eq_getElem hi]

variable {H : Type} {enc : TypeId × Value → H} {P : Program} {w : World}

theorem mat_size : ∀ (ty : Ty) (cs : List Value), Mat w ty cs → cs.length = ty.size := by
  intro ty
  induction ty with
  | int => rintro _ ⟨n, rfl, _⟩; rfl
  | str => rintro _ ⟨n, rfl, _⟩; rfl
  | bool => rintro _ ⟨n, rfl⟩; rfl
  | nil => rintro _ rfl; rfl
  | cons a b iha ihb => rintro _ ⟨x, y, rfl, h1, h2⟩; simp [iha _ h1, ihb _ h2, Ty.size]
  | sl e _ => rintro _ ⟨a, n, cap, rfl, _⟩; rfl

theorem mat_fs {n : Nat} (ih : ∀ (t : TypeId) (ty : Ty) (fuel : Nat) (cs : List Value) (x : DataW H × List MemPlace), chk P n t ty = true → DataW.trod enc P w 0 (fun _ => true) true fuel t cs = some x → Mat w ty cs) (fuel : Nat) (cs : List Value) :
    ∀ (fs : List Field) (off : Nat) (ty : Ty), chkFs P (chk P n) fs off ty = true → cs.length = off + ty.size →
      (∀ f ∈ fs, ∃ x, DataW.trod enc P w 0 (fun _ => true) true fuel f.type ((cs.drop f.offset).take (P.cellsOf f.type)) = some x) → Mat w ty (cs.drop off) := by
  intro fs
  induction fs with
  | nil =>
    intro off ty h1 h2 _
    cases ty <;> simp [chkFs] at h1
    simp only [Ty.size] at h2
    show cs.drop off = []
    exact List.drop_eq_nil_of_le (by omega)
  | cons f r ihr =>
    intro off ty h1 h2 h3
    cases ty with
    | cons a b =>
      simp only [chkFs, Bool.and_eq_true, beq_iff_eq] at h1
      obtain ⟨⟨⟨e1, e2⟩, e3⟩, e4⟩ := h1
      obtain ⟨y, h5⟩ := h3 f (by simp)
      simp only [Ty.size] at h2
      refine ⟨(cs.drop off).take a.size, cs.drop (off + a.size), ?_, ?_, ?_⟩
      · rw [← List.drop_drop, List.take_append_drop]
      · rw [e1, e2] at h5; exact ih _ _ _ _ _ e3 h5
      · exact ihr _ _ e4 (by omega) fun g hg => h3 g (by simp [hg])
    | _ => simp [chkFs] at h1

theorem mat_ar {n : Nat} (ih : ∀ (t : TypeId) (ty : Ty) (fuel : Nat) (cs : List Value) (x : DataW H × List MemPlace), chk P n t ty = true → DataW.trod enc P w 0 (fun _ => true) true fuel t cs = some x → Mat w ty cs) (fuel : Nat) (cs : List Value) (e : TypeId) :
    ∀ (k i : Nat) (ty : Ty), chkAr P (chk P n) e k ty = true → cs.length = i * P.cellsOf e + ty.size →
      (∀ j, j < k → ∃ x, DataW.trod enc P w 0 (fun _ => true) true fuel e ((cs.drop ((i + j) * P.cellsOf e)).take (P.cellsOf e)) = some x) → Mat w ty (cs.drop (i * P.cellsOf e)) := by
  intro k
  induction k with
  | zero =>
    intro i ty h1 h2 _
    cases ty <;> simp [chkAr] at h1
    simp only [Ty.size] at h2
    show cs.drop _ = []
    exact List.drop_eq_nil_of_le (by omega)
  | succ k ihk =>
    intro i ty h1 h2 h3
    cases ty with
    | cons a b =>
      simp only [chkAr, Bool.and_eq_true, beq_iff_eq] at h1
      obtain ⟨⟨e2, e3⟩, e4⟩ := h1
      simp only [Ty.size] at h2
      obtain ⟨x, h5⟩ := h3 0 (by omega)
      have e6 : i * P.cellsOf e + a.size = (i + 1) * P.cellsOf e := by rw [Nat.add_mul, e2]; omega
      refine ⟨(cs.drop (i * P.cellsOf e)).take a.size, cs.drop ((i + 1) * P.cellsOf e), ?_, ?_, ?_⟩
      · rw [← e6, ← List.drop_drop, List.take_append_drop]
      · rw [Nat.add_zero] at h5; rw [← e2]; exact ih _ _ _ _ _ e3 h5
      · refine ihk (i + 1) b e4 (by omega) fun j hj => ?_
        have := h3 (j + 1) (by omega)
        rwa [show i + (j + 1) = i + 1 + j by omega] at this
    | _ => simp [chkAr] at h1

theorem mat_of_trod : ∀ (n : Nat) (t : TypeId) (ty : Ty) (fuel : Nat) (cs : List Value) (x : DataW H × List MemPlace), chk P n t ty = true → DataW.trod enc P w 0 (fun _ => true) true fuel t cs = some x → Mat w ty cs := by
  intro n
  induction n with
  | zero => intro t ty fuel cs x h; simp [chk] at h
  | succ n ih =>
    intro t ty fuel cs x hc h
    cases fuel with
    | zero => simp [DataW.trod] at h
    | succ fuel =>
      simp only [chk] at hc
      split at hc
      · rename_i hu
        simp only [beq_iff_eq] at hc; subst hc
        obtain ⟨m, rfl, _, h1⟩ := DataW.trod_int hu h
        exact ⟨m, rfl, h1⟩
      · rename_i hu
        simp only [beq_iff_eq] at hc; subst hc
        obtain ⟨m, rfl, _, h1⟩ := DataW.trod_string hu h
        exact ⟨m, rfl, h1⟩
      · rename_i hu
        simp only [beq_iff_eq] at hc; subst hc
        obtain ⟨m, rfl, _⟩ := DataW.trod_bool hu h
        exact ⟨m, rfl⟩
      · rename_i e hu
        split at hc
        · rename_i y
          simp only [Bool.and_eq_true, beq_iff_eq, decide_eq_true_eq] at hc
          obtain ⟨⟨e1, e2⟩, e3⟩ := hc
          rcases DataW.trod_slice hu h with ⟨rfl, _⟩ | ⟨a, len, cap, elems, rest, m, _, rfl, _, _, hl, hm, hlen, hel, _⟩
          · exact ⟨none, 0, 0, rfl, Nat.le_refl _, Nat.zero_le _, .inl rfl⟩
          · refine ⟨some a, len, cap, rfl, hl, hm, ?_⟩
            by_cases h0 : len = 0
            · exact .inl h0
            · have key : ∀ i, i < len → ∃ r, w.cells? 0 (a.add (i * P.cellsOf e)) (P.cellsOf e) = some r ∧ Mat w y r := by
                intro i hi
                have h5 := hel i hi
                rw [List.getElem?_eq_getElem (by omega), Option.bind_eq_some_iff] at h5
                obtain ⟨r, h6, h7⟩ := h5
                exact ⟨r, h6, ih _ _ _ _ _ e3 h7⟩
              have h9' : a.spot = none := by
                obtain ⟨r, h6, h7⟩ := key 0 (by omega)
                obtain ⟨_, h9, _⟩ := cells_row h6 (by omega)
                rw [Nat.zero_mul, addr_zero] at h9
                exact h9
              have hrows : ∀ k, k ≤ len → ∃ rows : List (List Value), rows.length = k ∧ (∀ r ∈ rows, Mat w y r) ∧ rows.flatten.length = k * y.size ∧ ∀ i (hi : i < rows.flatten.length), w.cell? (a.add i) = some rows.flatten[i] := by
                intro k
                induction k with
                | zero => intro _; exact ⟨[], rfl, by simp, by simp, by simp⟩
                | succ k ihk =>
                  intro hk
                  obtain ⟨rows, r1, r2, r3, r4⟩ := ihk (by omega)
                  obtain ⟨r, h6, h7⟩ := key k (by omega)
                  obtain ⟨h8, h9, h10⟩ := cells_row h6 (by omega)
                  refine ⟨rows ++ [r], by simp [r1], ?_, ?_, ?_⟩
                  · intro x hx; simp at hx; rcases hx with hx | rfl
                    · exact r2 x hx
                    · exact h7
                  · simp [List.flatten_append, r3, h8, e1, Nat.add_mul]
                  · intro i hi
                    have e5 : (rows ++ [r]).flatten = rows.flatten ++ r := by simp
                    simp only [e5] at hi ⊢
                    by_cases hlt : i < rows.flatten.length
                    · rw [List.getElem_append_left hlt]; exact r4 i hlt
                    · rw [List.getElem_append_right (by omega)]
                      simp only [List.length_append] at hi
                      have := h10 (i - rows.flatten.length) (by omega)
                      rw [← this, addr_add' a h9', addr_add' a h9', addr_add' _ rfl]
                      congr 2
                      simp only
                      rw [r3, e1]; omega
              obtain ⟨rows, r1, r2, r3, r4⟩ := hrows len (Nat.le_refl _)
              have hne : rows.flatten ≠ [] := by
                intro h; rw [h] at r3
                have : 0 < len * y.size := Nat.mul_pos (by omega) e2
                simp at r3; omega
              exact .inr ⟨a, rfl, rows, r1, row_of_cells h9' r4 hne, r2⟩
        · cases hc
      · rename_i fs hu
        simp only [Bool.and_eq_true, beq_iff_eq] at hc
        obtain ⟨xs, m, h0, _, h1, h2, h3⟩ := DataW.trod_struct hu h
        have := mat_fs (enc := enc) ih m cs fs.toList 0 ty hc.2 (by omega) (by
          intro f hf
          obtain ⟨i, hi, rfl⟩ := List.getElem_of_mem hf
          have hi' : i < fs.size := by simpa using hi
          have h4 := h3 i fs[i] (by simp [hi'])
          rw [List.getElem?_eq_getElem (by omega)] at h4
          exact ⟨_, by simpa using h4⟩)
        simpa using this
      · rename_i k e hu
        simp only [Bool.and_eq_true, beq_iff_eq] at hc
        obtain ⟨xs, m, h0, _, h1, h2, h3⟩ := DataW.trod_array hu h
        have := mat_ar (enc := enc) ih m cs e k 0 ty hc.2 (by omega) (by
          intro j hj
          have h4 := h3 j hj
          rw [List.getElem?_eq_getElem (by omega)] at h4
          exact ⟨_, by simpa using h4⟩)
        simpa using this
      · cases hc
end Go.Cw
namespace Go.Cw
open Go Go.RowKit

/-- a slice of things that are laid so -/
theorem mat_sl {w : World} {α : Type} {enc : α → List Value} {ty : Ty} {Good : α → Prop} (hc : ∀ cs, Mat w ty cs → ∃ x, Good x ∧ cs = enc x) {v : Value} (hm : Mat w (.sl ty) [v]) :
    ∃ l : List α, Sl enc (full w) v l ∧ (∀ x ∈ l, Good x) ∧ l.length ≤ maxLen := by
  obtain ⟨a, n, cap, e, h1, h2, h3⟩ := hm
  simp only [List.cons.injEq, and_true] at e
  subst e
  rcases h3 with rfl | ⟨g, rfl, rows, h4, h5, h6⟩
  · exact ⟨[], ⟨a, cap, rfl, by simp, .inl rfl⟩, by simp, by simp⟩
  · have key : ∀ rows : List (List Value), (∀ r ∈ rows, Mat w ty r) → ∃ l : List α, rows.flatten = l.flatMap enc ∧ l.length = rows.length ∧ ∀ x ∈ l, Good x := by
      intro rows
      induction rows with
      | nil => intro _; exact ⟨[], rfl, rfl, by simp⟩
      | cons r rows ih =>
        intro hr
        obtain ⟨l, a1, a2, a3⟩ := ih fun r hr' => hr r (by simp [hr'])
        obtain ⟨x, b1, b2⟩ := hc r (hr r (by simp))
        exact ⟨x :: l, by simp [a1, b2], by simp [a2], by simp; exact ⟨b1, a3⟩⟩
    obtain ⟨l, a1, a2, a3⟩ := key rows h6
    refine ⟨l, ⟨some g, cap, by rw [a2, h4], by rw [a2, h4]; exact h1, .inr ⟨g, rfl, by rw [← a1]; exact h5⟩⟩, a3, by rw [a2, h4]; omega⟩

theorem mat_int {w : World} {b : Ty} {cs : List Value} (h : Mat w (.cons .int b) cs) : ∃ n r, cs = .int .i64 n :: r ∧ Mat w b r := by
  obtain ⟨x, y, rfl, ⟨n, rfl, _⟩, h2⟩ := h
  exact ⟨n, y, rfl, h2⟩
theorem mat_str {w : World} {b : Ty} {cs : List Value} (h : Mat w (.cons .str b) cs) : ∃ (s : List UInt8) (r : List Value), cs = .string (str s) :: r ∧ s.length ≤ maxLen ∧ Mat w b r := by
  obtain ⟨x, y, rfl, ⟨n, rfl, h1⟩, h2⟩ := h
  exact ⟨n.data.toList, y, by rw [str_of]; rfl, by simpa using h1, h2⟩
theorem mat_one {w : World} {a b : Ty} {cs : List Value} (h : Mat w (.cons (.sl a) b) cs) : ∃ v r, cs = v :: r ∧ Mat w (.sl a) [v] ∧ Mat w b r := by
  obtain ⟨x, y, rfl, h1, h2⟩ := h
  have h1' := h1
  obtain ⟨a', n, cap, rfl, _⟩ := h1
  exact ⟨_, y, rfl, h1', h2⟩

def rdTy : Ty := .cons .int (.cons .int (.cons .int (.cons .str .nil)))
/-- a value of one cell -/
theorem mat_cell {w : World} {v : Value} {a : Option Addr} {n c : Nat} {ty : Ty} (he : v = .slice a n c) (h : Mat w ty v.cells.toList) : Mat w ty [v] := by subst he; simpa [Value.cells] using h
/-- what is proved of a law, as the row wants it -/
theorem law_calls {P : Program} {N : Num} {k : Nat} {f : FuncId} {args : List Value} {w : World} (hf : N.fid k = f) (h : GF P N k args (full w) fun v h' => v = .bool true ∧ Heap.le (full w) h') :
    Calls P f args.toArray w fun e w' => e = .returned (.bool true) ∧ Below w.heap.size w w' := by
  subst hf
  refine (h.2 w (full_sub w)).mono ?_
  rintro e w' ⟨v, h', rfl, ⟨rfl, hle⟩, hs⟩
  refine ⟨rfl, hs.os, hs.tape, hs.output, hs.size, fun b hb => ?_⟩
  have h1 : full w b = some w.heap[b] := by simp [full, hb]
  rw [hs.sub b _ (hle b _ h1)]
  simp [hb]
end Go.Cw
namespace Go.Cw
open Go
theorem mat_si {w : World} (cs : List Value) (h : Mat w rdTy cs) : ∃ x : Si, True ∧ cs = x.enc := by
  obtain ⟨a, _, rfl, h1⟩ := mat_int h
  obtain ⟨b, _, rfl, h2⟩ := mat_int h1
  obtain ⟨c, _, rfl, h3⟩ := mat_int h2
  obtain ⟨s, _, rfl, _, h4⟩ := mat_str h3
  cases h4
  exact ⟨⟨a, b, c, s⟩, trivial, rfl⟩
theorem mat_ss {w : World} {v : Value} (h : Mat w (.sl (.sl rdTy)) [v]) : ∃ L, SS (full w) v L := by
  obtain ⟨l, hl, hg, _⟩ := mat_sl (enc := encV) (Good := fun x => ∃ r : List Si, Sl Si.enc (full w) x r) (by
    intro cs h
    have h' := h
    obtain ⟨a, n, cap, rfl, _⟩ := h
    obtain ⟨r, hr, _⟩ := mat_sl mat_si h'
    exact ⟨_, ⟨r, hr⟩, rfl⟩) h
  have : ∀ l : List Value, (∀ x ∈ l, ∃ r : List Si, Sl Si.enc (full w) x r) → ∃ L : List (List Si), l.length = L.length ∧ ∀ i, i < L.length → Sl Si.enc (full w) (l.getD i undef) (L.getD i []) := by
    intro l
    induction l with
    | nil => intro _; exact ⟨[], rfl, by simp⟩
    | cons r l ih =>
      intro h
      obtain ⟨L, h1, h2⟩ := ih fun r hr => h r (by simp [hr])
      obtain ⟨f, hf⟩ := h r (by simp)
      refine ⟨f :: L, by simp [h1], fun i hi => ?_⟩
      cases i with
      | zero => simpa using hf
      | succ i => simpa using h2 i (by simpa using hi)
  obtain ⟨L, h1, h2⟩ := this l hg
  exact ⟨L, l, hl, h1, h2⟩
end Go.Cw
