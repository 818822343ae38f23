/- Part 5 of the proof of TopEpochs: a small language for the program's functions, its soundness, and what the functions do. No conditions beyond the theorems' own. -/
import Derived.Test.YthhepmakjimhlaaCw4
import Derived.Below
import Derived.Carry
import Derived.Deep.Slices
import Derived.OpenShut
import Derived.ProofKit
import Derived.Shelf.GgSortFunc.SmallK
import Derived.Shelf.GgSortFunc.Tiny
import Derived.Shelf.SlSortFuncK.WholeK
import Derived.ShutString
import Derived.Sort.Walk13a
import Derived.WalkKit
import GoSem.ClaimJoined
set_option linter.unusedSimpArgs false
set_option linter.unusedVariables false
namespace Go.Cw
open Go Go.Sort Go.Proofs

def S77 (N : Num) (Γ : Ctx) (n : Nat) : Spec := fun args h K => ∃ F v fl fs cl cs lt d, ∃ a b limit : Nat, args = [.agg #[.func (.func fl) #[] cl, .func (.func fs) #[] cs], .int .i64 a, .int .i64 b, .int .i64 limit] ∧ So N Γ F v fl fs cl cs lt d.size ∧ SWO lt ∧ Rw F h v d ∧ a ≤ b ∧ b ≤ d.size ∧ b - a ≤ n ∧ limit ≤ 1000 ∧ Below lt a b d ∧
  ∀ h', Rw F h' v (pdq lt d a b limit true true) → kv v h h' → K (.tuple #[]) h'
theorem i_seqm {N : Num} {Γ : Ctx} [GoodC Γ] {Q : SE → Env → Heap → Prop} [MonoQ Q] (R : Env → Heap → Prop) {s b : St} {env : Env} {h : Heap} (hb : ∀ env h, R env h → SW N Γ b Q env h) (hx : SW N Γ s (meetK R Q) env h) : SW N Γ (.seq s b) Q env h := by
  show SW N Γ s (seqK N Γ b Q) env h
  exact i_meet R hb hx
theorem hintZ_two {x : Hint} : hintZ x = 2 ↔ x = .decreasing := by cases x <;> simp [hintZ]
theorem hintZ_one {x : Hint} : hintZ x = 1 ↔ x = .increasing := by cases x <;> simp [hintZ]
theorem F77_ok {N : Num} {Γ : Ctx} [GoodC Γ] (n : Nat) (H77 : ∀ m, m < n → Sat (S77 N Γ m) (Γ 77)) (H98 : Sat (S98 N Γ) (Γ 98)) (H99 : Sat (S99 N Γ) (Γ 99)) (H100 : Sat (S100 N Γ) (Γ 100)) (H101 : Sat (S101 N Γ) (Γ 101)) (H102 : Sat (S102 N Γ) (Γ 102)) (H103 : Sat (S103 N Γ) (Γ 103)) (H104 : Sat (S104 N Γ) (Γ 104)) (H105 : Sat (S105 N Γ) (Γ 105)) : Sat (S77 N Γ n) (SF N Γ F77) := by
  rintro _ h K ⟨F, v, fl, fs, cl, cs, lt, d, a, b, limit, rfl, hS, hO, hd, hab, hb, hn, hlim, hBel0, hK⟩
  have hsz := hS.size
  refine i_fun rfl ?_
  simp only [F77, env0, List.map, List.length, List.replicate, List.cons_append, List.nil_append, Nat.reduceSub, Nat.reduceAdd]
  try simp (disch := first | omega | (simp only [PL]; omega)) only [PS, P1, P2, P3, P4, P5, P6, P7, P8, PA, PB, PC, Nat.reduceAdd, Nat.reduceSub, Nat.reduceMul, Nat.reduceLeDiff, Nat.reduceEqDiff, Nat.succ_ne_self, reduceCtorEq, Int.reduceToNat, Int.cast_ofNat_Int, Int.reduceEq, Int.reduceNe, Int.reduceLT, Int.reduceLE]
  refine i_loop (fun x : Nat × Nat × Nat × Bool × Bool × Array Si => [some (.agg #[.func (.func fl) #[] cl, .func (.func fs) #[] cs]), some (.int .i64 (x.1 : Nat)), some (.int .i64 (x.2.1 : Nat)), some (.int .i64 (x.2.2.1 : Nat)), some (.agg #[.func (.func fl) #[] cl, .func (.func fs) #[] cs]), some (.bool x.2.2.2.1), some (.bool x.2.2.2.2.1), none, none, none, none, none, none, none, none, none, none, none, none, none, none, none, none, none, none, none, none, none, none])
    (fun x H => a ≤ x.1 ∧ x.1 ≤ x.2.1 ∧ x.2.1 ≤ b ∧ x.2.2.1 ≤ limit ∧ x.2.2.2.2.2.size = d.size ∧ Below lt x.1 x.2.1 x.2.2.2.2.2 ∧ Rw F H v x.2.2.2.2.2 ∧ kv v h H ∧ pdq lt x.2.2.2.2.2 x.1 x.2.1 x.2.2.1 x.2.2.2.1 x.2.2.2.2.1 = pdq lt d a b limit true true) (fun x => x.2.1 - x.1) (a, b, limit, true, true, d) (by dsimp only; try simp only [Pe, and_true, true_and, and_self]) ⟨Nat.le_refl _, hab, Nat.le_refl _, Nat.le_refl _, rfl, hBel0, hd, kv.refl, rfl⟩ ?_
  rintro ⟨a', b', lim, wb, wp, dk⟩ H ⟨haa, hab', hbb, hll, hsk, hBel, hR, hkv, hP⟩
  dsimp only at haa hab' hbb hll hsk hBel hR hP ⊢
  rw [← hP] at hK
  have hSk : So N Γ F v fl fs cl cs lt dk.size := by rw [hsk]; exact hS
  have hwL : IntKind.i64.wrap ((b' : Int) - a') = ((b' - a' : Nat) : Int) := by rw [w64 (by omega) (by omega)]; omega
  try simp (disch := first | omega | (simp only [PL]; omega)) only [PS, P1, P2, P3, P4, P5, P6, P7, P8, PA, PB, PC, Nat.reduceAdd, Nat.reduceSub, Nat.reduceMul, Nat.reduceLeDiff, Nat.reduceEqDiff, Nat.succ_ne_self, reduceCtorEq, Int.reduceToNat, Int.cast_ofNat_Int, Int.reduceEq, Int.reduceNe, Int.reduceLT, Int.reduceLE, hwL]
  refine i_cond (fun c1 => ?_) (fun c1 => ?_)
  · rw [pdq_small (by omega)] at hK
    try simp (disch := first | omega | (simp only [PL]; omega)) only [PS, P1, P2, P3, P4, P5, P6, P7, P8, PA, PB, PC, Nat.reduceAdd, Nat.reduceSub, Nat.reduceMul, Nat.reduceLeDiff, Nat.reduceEqDiff, Nat.succ_ne_self, reduceCtorEq, Int.reduceToNat, Int.cast_ofNat_Int, Int.reduceEq, Int.reduceNe, Int.reduceLT, Int.reduceLE]
    refine i_call H98 ⟨F, v, fl, fs, cl, cs, lt, dk, a', b', rfl, hSk, hR, hab', by omega, fun H2 hR2 hk2 => ?_⟩
    try simp (disch := first | omega | (simp only [PL]; omega)) only [PS, P1, P2, P3, P4, P5, P6, P7, P8, PA, PB, PC, Nat.reduceAdd, Nat.reduceSub, Nat.reduceMul, Nat.reduceLeDiff, Nat.reduceEqDiff, Nat.succ_ne_self, reduceCtorEq, Int.reduceToNat, Int.cast_ofNat_Int, Int.reduceEq, Int.reduceNe, Int.reduceLT, Int.reduceLE]
    exact hK H2 hR2 (hkv.trans hk2)
  have h12 : ¬ b' - a' ≤ 12 := by omega
  try simp (disch := first | omega | (simp only [PL]; omega)) only [PS, P1, P2, P3, P4, P5, P6, P7, P8, PA, PB, PC, Nat.reduceAdd, Nat.reduceSub, Nat.reduceMul, Nat.reduceLeDiff, Nat.reduceEqDiff, Nat.succ_ne_self, reduceCtorEq, Int.reduceToNat, Int.cast_ofNat_Int, Int.reduceEq, Int.reduceNe, Int.reduceLT, Int.reduceLE]
  refine i_cond (fun c2 => ?_) (fun c2 => ?_)
  · rw [pdq_heap h12 (by omega)] at hK
    try simp (disch := first | omega | (simp only [PL]; omega)) only [PS, P1, P2, P3, P4, P5, P6, P7, P8, PA, PB, PC, Nat.reduceAdd, Nat.reduceSub, Nat.reduceMul, Nat.reduceLeDiff, Nat.reduceEqDiff, Nat.succ_ne_self, reduceCtorEq, Int.reduceToNat, Int.cast_ofNat_Int, Int.reduceEq, Int.reduceNe, Int.reduceLT, Int.reduceLE]
    refine i_call H99 ⟨F, v, fl, fs, cl, cs, lt, dk, a', b', rfl, hSk, hR, hab', by omega, fun H2 hR2 hk2 => ?_⟩
    try simp (disch := first | omega | (simp only [PL]; omega)) only [PS, P1, P2, P3, P4, P5, P6, P7, P8, PA, PB, PC, Nat.reduceAdd, Nat.reduceSub, Nat.reduceMul, Nat.reduceLeDiff, Nat.reduceEqDiff, Nat.succ_ne_self, reduceCtorEq, Int.reduceToNat, Int.cast_ofNat_Int, Int.reduceEq, Int.reduceNe, Int.reduceLT, Int.reduceLE]
    exact hK H2 hR2 (hkv.trans hk2)
  have hl0 : ¬ lim = 0 := by omega
  obtain ⟨s1, B1, hc1, s2, B2, hpv, s3, B3⟩ := rd_facts (lt := lt) (limit := lim) (wb := wb) (wp := wp) hO partialInsertionSort_holds reverseRange_holds (show a' < b' by omega) (show b' ≤ dk.size by omega) hBel
  have hrl : (rd lt dk a' b' lim wb wp).lim ≤ lim := rd_lim_le
  try simp (disch := first | omega | (simp only [PL]; omega)) only [PS, P1, P2, P3, P4, P5, P6, P7, P8, PA, PB, PC, Nat.reduceAdd, Nat.reduceSub, Nat.reduceMul, Nat.reduceLeDiff, Nat.reduceEqDiff, Nat.succ_ne_self, reduceCtorEq, Int.reduceToNat, Int.cast_ofNat_Int, Int.reduceEq, Int.reduceNe, Int.reduceLT, Int.reduceLE]
  refine i_meet_cond (fun env H2 => Rw F H2 v (rd lt dk a' b' lim wb wp).d1 ∧ kv v h H2 ∧ env = [some (.agg #[.func (.func fl) #[] cl, .func (.func fs) #[] cs]), some (.int .i64 (a' : Nat)), some (.int .i64 (b' : Nat)), some (.int .i64 ((rd lt dk a' b' lim wb wp).lim : Nat)), some (.agg #[.func (.func fl) #[] cl, .func (.func fs) #[] cs]), some (.bool wb), some (.bool wp), some (.int .i64 (b' - a' : Nat)), none, none, none, none, none, none, none, none, none, none, none, none, none, none, none, none, none, none, none, none, none]) ?_ ?_
  rotate_left
  · cases wb with
    | true =>
      try simp (disch := first | omega | (simp only [PL]; omega)) only [PS, P1, P2, P3, P4, P5, P6, P7, P8, PA, PB, PC, Nat.reduceAdd, Nat.reduceSub, Nat.reduceMul, Nat.reduceLeDiff, Nat.reduceEqDiff, Nat.succ_ne_self, reduceCtorEq, Int.reduceToNat, Int.cast_ofNat_Int, Int.reduceEq, Int.reduceNe, Int.reduceLT, Int.reduceLE]
      exact k_meet _ (by rw [rd_true.2]; try simp only [Pe, and_true, true_and, and_self]) ⟨hR, hkv, rfl⟩
    | false =>
      try simp (disch := first | omega | (simp only [PL]; omega)) only [PS, P1, P2, P3, P4, P5, P6, P7, P8, PA, PB, PC, Nat.reduceAdd, Nat.reduceSub, Nat.reduceMul, Nat.reduceLeDiff, Nat.reduceEqDiff, Nat.succ_ne_self, reduceCtorEq, Int.reduceToNat, Int.cast_ofNat_Int, Int.reduceEq, Int.reduceNe, Int.reduceLT, Int.reduceLE]
      refine i_call H100 ⟨F, v, fl, fs, cl, cs, lt, dk, a', b', rfl, hSk, hR, hab', by omega, fun H2 hR2 hk2 => ?_⟩
      have hwl : IntKind.i64.wrap ((lim : Int) - 1) = (((rd lt dk a' b' lim false wp).lim : Nat) : Int) := by rw [rd_false.2, w64 (by omega) (by omega)]; omega
      try simp (disch := first | omega | (simp only [PL]; omega)) only [PS, P1, P2, P3, P4, P5, P6, P7, P8, PA, PB, PC, Nat.reduceAdd, Nat.reduceSub, Nat.reduceMul, Nat.reduceLeDiff, Nat.reduceEqDiff, Nat.succ_ne_self, reduceCtorEq, Int.reduceToNat, Int.cast_ofNat_Int, Int.reduceEq, Int.reduceNe, Int.reduceLT, Int.reduceLE, hwl]
      exact k_meet _ (by try simp only [Pe, and_true, true_and, and_self]) ⟨by rw [rd_false.1]; exact hR2, hkv.trans hk2, rfl⟩
  clear hR hkv
  rintro env H2 ⟨hR1, hkv1, rfl⟩
  try simp (disch := first | omega | (simp only [PL]; omega)) only [PS, P1, P2, P3, P4, P5, P6, P7, P8, PA, PB, PC, Nat.reduceAdd, Nat.reduceSub, Nat.reduceMul, Nat.reduceLeDiff, Nat.reduceEqDiff, Nat.succ_ne_self, reduceCtorEq, Int.reduceToNat, Int.cast_ofNat_Int, Int.reduceEq, Int.reduceNe, Int.reduceLT, Int.reduceLE]
  refine i_call H101 ⟨F, v, fl, fs, cl, cs, lt, (rd lt dk a' b' lim wb wp).d1, a', b', rfl, by rw [s1]; exact hSk, hR1, by omega, by omega, fun H3 hR3 hk3 => ?_⟩
  have hkv3 := hkv1.trans hk3
  rw [← rd_c]
  clear hR1 hkv1 hk3
  try simp (disch := first | omega | (simp only [PL]; omega)) only [PS, P1, P2, P3, P4, P5, P6, P7, P8, PA, PB, PC, Nat.reduceAdd, Nat.reduceSub, Nat.reduceMul, Nat.reduceLeDiff, Nat.reduceEqDiff, Nat.succ_ne_self, reduceCtorEq, Int.reduceToNat, Int.cast_ofNat_Int, Int.reduceEq, Int.reduceNe, Int.reduceLT, Int.reduceLE]
  refine i_meet_cond (fun env H4 => Rw F H4 v (rd lt dk a' b' lim wb wp).d2 ∧ kv v h H4 ∧ env = [some (.agg #[.func (.func fl) #[] cl, .func (.func fs) #[] cs]), some (.int .i64 (a' : Nat)), some (.int .i64 (b' : Nat)), some (.int .i64 ((rd lt dk a' b' lim wb wp).lim : Nat)), some (.agg #[.func (.func fl) #[] cl, .func (.func fs) #[] cs]), some (.bool wb), some (.bool wp), some (.int .i64 (b' - a' : Nat)), some (.int .i64 ((rd lt dk a' b' lim wb wp).pivot : Nat)), some (.int .i64 (hintZ (rd lt dk a' b' lim wb wp).hint)), none, none, none, none, none, none, none, none, none, none, none, none, none, none, none, none, none, none, none]) ?_ ?_
  rotate_left
  · refine i_cond (fun c3 => ?_) (fun c3 => ?_)
    · have hh := hintZ_two.1 c3
      obtain ⟨e1, e2, e3⟩ := rd_dec hh
      try simp (disch := first | omega | (simp only [PL]; omega)) only [PS, P1, P2, P3, P4, P5, P6, P7, P8, PA, PB, PC, Nat.reduceAdd, Nat.reduceSub, Nat.reduceMul, Nat.reduceLeDiff, Nat.reduceEqDiff, Nat.succ_ne_self, reduceCtorEq, Int.reduceToNat, Int.cast_ofNat_Int, Int.reduceEq, Int.reduceNe, Int.reduceLT, Int.reduceLE]
      refine i_call H102 ⟨F, v, fl, fs, cl, cs, lt, (rd lt dk a' b' lim wb wp).d1, a', b', rfl, by rw [s1]; exact hSk, hR3, by omega, by omega, fun H4 hR4 hk4 => ?_⟩
      have hwp : IntKind.i64.wrap (IntKind.i64.wrap ((b' : Int) - 1) - IntKind.i64.wrap (((rd lt dk a' b' lim wb wp).c.1 : Int) - a')) = (((rd lt dk a' b' lim wb wp).pivot : Nat) : Int) := by
        rw [e2, w64 (n := (b' : Int) - 1) (by omega) (by omega), w64 (n := ((rd lt dk a' b' lim wb wp).c.1 : Int) - a') (by omega) (by omega), w64 (by omega) (by omega)]; omega
      try simp (disch := first | omega | (simp only [PL]; omega)) only [PS, P1, P2, P3, P4, P5, P6, P7, P8, PA, PB, PC, Nat.reduceAdd, Nat.reduceSub, Nat.reduceMul, Nat.reduceLeDiff, Nat.reduceEqDiff, Nat.succ_ne_self, reduceCtorEq, Int.reduceToNat, Int.cast_ofNat_Int, Int.reduceEq, Int.reduceNe, Int.reduceLT, Int.reduceLE, hwp]
      refine k_meet _ (by rw [e3, e2]; simp only [hintZ]; try simp only [Pe, and_true, true_and, and_self]) ⟨by rw [e1]; exact hR4, hkv3.trans hk4, rfl⟩
    · have hh : (rd lt dk a' b' lim wb wp).c.2 ≠ .decreasing := fun e => c3 (hintZ_two.2 e)
      obtain ⟨e1, e2, e3⟩ := rd_not hh
      try simp (disch := first | omega | (simp only [PL]; omega)) only [PS, P1, P2, P3, P4, P5, P6, P7, P8, PA, PB, PC, Nat.reduceAdd, Nat.reduceSub, Nat.reduceMul, Nat.reduceLeDiff, Nat.reduceEqDiff, Nat.succ_ne_self, reduceCtorEq, Int.reduceToNat, Int.cast_ofNat_Int, Int.reduceEq, Int.reduceNe, Int.reduceLT, Int.reduceLE]
      refine k_meet _ (by rw [e2, e3]; try simp only [Pe, and_true, true_and, and_self]) ⟨by rw [e1]; exact hR3, hkv3, rfl⟩
  clear hR3 hkv3
  rintro env H4 ⟨hR4, hkv4, rfl⟩
  try simp (disch := first | omega | (simp only [PL]; omega)) only [PS, P1, P2, P3, P4, P5, P6, P7, P8, PA, PB, PC, Nat.reduceAdd, Nat.reduceSub, Nat.reduceMul, Nat.reduceLeDiff, Nat.reduceEqDiff, Nat.succ_ne_self, reduceCtorEq, Int.reduceToNat, Int.cast_ofNat_Int, Int.reduceEq, Int.reduceNe, Int.reduceLT, Int.reduceLE]
  refine i_meet_cond (fun env H5 => (rd lt dk a' b' lim wb wp).pi.2 = false ∧ Rw F H5 v (rd lt dk a' b' lim wb wp).pi.1 ∧ kv v h H5 ∧ env = [some (.agg #[.func (.func fl) #[] cl, .func (.func fs) #[] cs]), some (.int .i64 (a' : Nat)), some (.int .i64 (b' : Nat)), some (.int .i64 ((rd lt dk a' b' lim wb wp).lim : Nat)), some (.agg #[.func (.func fl) #[] cl, .func (.func fs) #[] cs]), some (.bool wb), some (.bool wp), some (.int .i64 (b' - a' : Nat)), some (.int .i64 ((rd lt dk a' b' lim wb wp).pivot : Nat)), none, none, none, none, none, none, none, none, none, none, none, none, none, none, none, none, none, none, none, none]) ?_ ?_
  rotate_left
  · by_cases hc : (wb && wp && decide ((rd lt dk a' b' lim wb wp).hint = .increasing)) = true
    · have hpi := rd_pi_yes hc
      have hc' := hc
      simp only [Bool.and_eq_true, decide_eq_true_eq] at hc'
      obtain ⟨⟨rfl, rfl⟩, hinc⟩ := hc'
      have hz := hintZ_one.2 hinc
      try simp (disch := first | omega | (simp only [PL]; omega)) only [PS, P1, P2, P3, P4, P5, P6, P7, P8, PA, PB, PC, Nat.reduceAdd, Nat.reduceSub, Nat.reduceMul, Nat.reduceLeDiff, Nat.reduceEqDiff, Nat.succ_ne_self, reduceCtorEq, Int.reduceToNat, Int.cast_ofNat_Int, Int.reduceEq, Int.reduceNe, Int.reduceLT, Int.reduceLE, hz]
      refine i_call H103 ⟨F, v, fl, fs, cl, cs, lt, _, a', b', rfl, by rw [s2]; exact hSk, hR4, by omega, by omega, fun H5 hR5 hk5 => ?_⟩
      rw [← hpi] at hR5 ⊢
      cases hp2 : (rd lt dk a' b' lim true true).pi.2 with
      | true =>
        rw [pdq_done h12 hl0 hp2] at hK
        try simp (disch := first | omega | (simp only [PL]; omega)) only [PS, P1, P2, P3, P4, P5, P6, P7, P8, PA, PB, PC, Nat.reduceAdd, Nat.reduceSub, Nat.reduceMul, Nat.reduceLeDiff, Nat.reduceEqDiff, Nat.succ_ne_self, reduceCtorEq, Int.reduceToNat, Int.cast_ofNat_Int, Int.reduceEq, Int.reduceNe, Int.reduceLT, Int.reduceLE]
        exact hK H5 hR5 (hkv4.trans hk5)
      | false =>
        try simp (disch := first | omega | (simp only [PL]; omega)) only [PS, P1, P2, P3, P4, P5, P6, P7, P8, PA, PB, PC, Nat.reduceAdd, Nat.reduceSub, Nat.reduceMul, Nat.reduceLeDiff, Nat.reduceEqDiff, Nat.succ_ne_self, reduceCtorEq, Int.reduceToNat, Int.cast_ofNat_Int, Int.reduceEq, Int.reduceNe, Int.reduceLT, Int.reduceLE]
        exact k_meet _ (by try simp only [Pe, and_true, true_and, and_self]) ⟨hR5, hkv4.trans hk5, rfl⟩
    · have hc0 : (wb && wp && decide ((rd lt dk a' b' lim wb wp).hint = .increasing)) = false := by simpa using hc
      have hpi := rd_pi_no hc0
      have e1 : (rd lt dk a' b' lim wb wp).pi.1 = (rd lt dk a' b' lim wb wp).d2 := by rw [hpi]
      have e2 : (rd lt dk a' b' lim wb wp).pi.2 = false := by rw [hpi]
      rw [← e1] at hR4
      cases wb with
      | false =>
        try simp (disch := first | omega | (simp only [PL]; omega)) only [PS, P1, P2, P3, P4, P5, P6, P7, P8, PA, PB, PC, Nat.reduceAdd, Nat.reduceSub, Nat.reduceMul, Nat.reduceLeDiff, Nat.reduceEqDiff, Nat.succ_ne_self, reduceCtorEq, Int.reduceToNat, Int.cast_ofNat_Int, Int.reduceEq, Int.reduceNe, Int.reduceLT, Int.reduceLE]
        exact k_meet _ (by try simp only [Pe, and_true, true_and, and_self]) ⟨e2, hR4, hkv4, rfl⟩
      | true =>
        cases wp with
        | false =>
          try simp (disch := first | omega | (simp only [PL]; omega)) only [PS, P1, P2, P3, P4, P5, P6, P7, P8, PA, PB, PC, Nat.reduceAdd, Nat.reduceSub, Nat.reduceMul, Nat.reduceLeDiff, Nat.reduceEqDiff, Nat.succ_ne_self, reduceCtorEq, Int.reduceToNat, Int.cast_ofNat_Int, Int.reduceEq, Int.reduceNe, Int.reduceLT, Int.reduceLE]
          exact k_meet _ (by try simp only [Pe, and_true, true_and, and_self]) ⟨e2, hR4, hkv4, rfl⟩
        | true =>
          have hz : (hintZ (rd lt dk a' b' lim true true).hint = 1) = False := by
            rw [eq_iff_iff, iff_false]
            intro e
            exact hc (by simp [hintZ_one.1 e])
          try simp (disch := first | omega | (simp only [PL]; omega)) only [PS, P1, P2, P3, P4, P5, P6, P7, P8, PA, PB, PC, Nat.reduceAdd, Nat.reduceSub, Nat.reduceMul, Nat.reduceLeDiff, Nat.reduceEqDiff, Nat.succ_ne_self, reduceCtorEq, Int.reduceToNat, Int.cast_ofNat_Int, Int.reduceEq, Int.reduceNe, Int.reduceLT, Int.reduceLE, hz]
          exact k_meet _ (by try simp only [Pe, and_true, true_and, and_self]) ⟨e2, hR4, hkv4, rfl⟩
  clear hR4 hkv4
  rintro env H5 ⟨hp2, hR5, hkv5, rfl⟩
  have hsz5 : (rd lt dk a' b' lim wb wp).pi.1.size = d.size := s3.trans hsk
  have hS5 : So N Γ F v fl fs cl cs lt (rd lt dk a' b' lim wb wp).pi.1.size := by rw [hsz5]; exact hS
  have hpvs : (rd lt dk a' b' lim wb wp).pivot < d.size := by omega
  have hwp1 : a' ≠ 0 → IntKind.i64.wrap ((a' : Int) - 1) = ((a' - 1 : Nat) : Int) := fun h0 => by rw [w64 (by omega) (by omega)]; omega
  refine i_seqm (fun env H6 => (decide (a' > 0) && !lt (rd lt dk a' b' lim wb wp).pi.1[a' - 1]! (rd lt dk a' b' lim wb wp).pi.1[(rd lt dk a' b' lim wb wp).pivot]!) = false ∧ Rw F H6 v (rd lt dk a' b' lim wb wp).pi.1 ∧ kv v h H6 ∧ env = [some (.agg #[.func (.func fl) #[] cl, .func (.func fs) #[] cs]), some (.int .i64 (a' : Nat)), some (.int .i64 (b' : Nat)), some (.int .i64 ((rd lt dk a' b' lim wb wp).lim : Nat)), some (.agg #[.func (.func fl) #[] cl, .func (.func fs) #[] cs]), some (.bool wb), some (.bool wp), some (.int .i64 (b' - a' : Nat)), some (.int .i64 ((rd lt dk a' b' lim wb wp).pivot : Nat)), none, none, none, none, none, none, none, none, none, none, none, none, none, none, none, none, none, none, none, none]) ?_ ?_
  rotate_left
  · by_cases ha0 : a' = 0
    · have h0 : ((0 : Int) < (a' : Int)) = False := by rw [eq_iff_iff]; simp; omega
      try simp (disch := first | omega | (simp only [PL]; omega)) only [PS, P1, P2, P3, P4, P5, P6, P7, P8, PA, PB, PC, Nat.reduceAdd, Nat.reduceSub, Nat.reduceMul, Nat.reduceLeDiff, Nat.reduceEqDiff, Nat.succ_ne_self, reduceCtorEq, Int.reduceToNat, Int.cast_ofNat_Int, Int.reduceEq, Int.reduceNe, Int.reduceLT, Int.reduceLE, h0]
      exact k_meet _ (by try simp only [Pe, and_true, true_and, and_self]) ⟨by subst ha0; rfl, hR5, hkv5, rfl⟩
    have h0 : ((0 : Int) < (a' : Int)) = True := by rw [eq_iff_iff]; simp; omega
    have hw0 := hwp1 ha0
    try simp (disch := first | omega | (simp only [PL]; omega)) only [PS, P1, P2, P3, P4, P5, P6, P7, P8, PA, PB, PC, Nat.reduceAdd, Nat.reduceSub, Nat.reduceMul, Nat.reduceLeDiff, Nat.reduceEqDiff, Nat.succ_ne_self, reduceCtorEq, Int.reduceToNat, Int.cast_ofNat_Int, Int.reduceEq, Int.reduceNe, Int.reduceLT, Int.reduceLE, h0, hw0]
    refine hS.less H5 (rd lt dk a' b' lim wb wp).pi.1 (a' - 1) (rd lt dk a' b' lim wb wp).pivot _ hsz5 hR5 (by omega) (by omega) fun H6 hle6 => ?_
    cases hl : lt (rd lt dk a' b' lim wb wp).pi.1[a' - 1]! (rd lt dk a' b' lim wb wp).pi.1[(rd lt dk a' b' lim wb wp).pivot]! with
    | true =>
      try simp (disch := first | omega | (simp only [PL]; omega)) only [PS, P1, P2, P3, P4, P5, P6, P7, P8, PA, PB, PC, Nat.reduceAdd, Nat.reduceSub, Nat.reduceMul, Nat.reduceLeDiff, Nat.reduceEqDiff, Nat.succ_ne_self, reduceCtorEq, Int.reduceToNat, Int.cast_ofNat_Int, Int.reduceEq, Int.reduceNe, Int.reduceLT, Int.reduceLE]
      exact k_meet _ (by try simp only [Pe, and_true, true_and, and_self]) ⟨hR5.le hle6, hkv5.trans (kv.of_le hle6), rfl⟩
    | false =>
      have h87 : (decide (a' > 0) && !lt (rd lt dk a' b' lim wb wp).pi.1[a' - 1]! (rd lt dk a' b' lim wb wp).pi.1[(rd lt dk a' b' lim wb wp).pivot]!) = true := by rw [hl]; simp; omega
      obtain ⟨mid, d4, hx⟩ : ∃ mid d4, (partitionEqual lt (rd lt dk a' b' lim wb wp).pi.1 a' b' (rd lt dk a' b' lim wb wp).pivot) = (mid, d4) := ⟨_, _, rfl⟩
      obtain ⟨r1, r2, r3, r4, _⟩ := round_eq hO (partitionEqual_holds lt) (show 0 < a' by omega) hpv.1 hpv.2 (show b' ≤ (rd lt dk a' b' lim wb wp).pi.1.size by omega) B3 hl hx
      try simp (disch := first | omega | (simp only [PL]; omega)) only [PS, P1, P2, P3, P4, P5, P6, P7, P8, PA, PB, PC, Nat.reduceAdd, Nat.reduceSub, Nat.reduceMul, Nat.reduceLeDiff, Nat.reduceEqDiff, Nat.succ_ne_self, reduceCtorEq, Int.reduceToNat, Int.cast_ofNat_Int, Int.reduceEq, Int.reduceNe, Int.reduceLT, Int.reduceLE]
      refine i_call H104 ⟨F, v, fl, fs, cl, cs, lt, (rd lt dk a' b' lim wb wp).pi.1, a', b', (rd lt dk a' b' lim wb wp).pivot, rfl, hS5, hR5.le hle6, by omega, by omega, by omega, fun H7 hR7 hk7 => ?_⟩
      rw [hx] at hR7 ⊢
      have hnx := pdq_eq h12 hl0 hp2 h87 (by rw [hx]; exact ⟨r1, r2⟩)
      rw [hx] at hnx
      try simp (disch := first | omega | (simp only [PL]; omega)) only [PS, P1, P2, P3, P4, P5, P6, P7, P8, PA, PB, PC, Nat.reduceAdd, Nat.reduceSub, Nat.reduceMul, Nat.reduceLeDiff, Nat.reduceEqDiff, Nat.succ_ne_self, reduceCtorEq, Int.reduceToNat, Int.cast_ofNat_Int, Int.reduceEq, Int.reduceNe, Int.reduceLT, Int.reduceLE]
      exact k_loop (mid, b', (rd lt dk a' b' lim wb wp).lim, wb, wp, d4) (by dsimp only; omega) (by dsimp only; try simp only [Pe, and_true, true_and, and_self]) ⟨by dsimp only; omega, by dsimp only; omega, hbb, by dsimp only; omega, by dsimp only; omega, r4, hR7, (hkv5.trans (kv.of_le hle6)).trans hk7, by rw [← hP, hnx]⟩
  clear hR5 hkv5
  rintro env H6 ⟨h87, hR6, hkv6, rfl⟩
  obtain ⟨mid, ap, d4, hx⟩ : ∃ mid ap d4, (partition lt (rd lt dk a' b' lim wb wp).pi.1 a' b' (rd lt dk a' b' lim wb wp).pivot) = (mid, ap, d4) := ⟨_, _, _, rfl⟩
  obtain ⟨r1, r2, r3, r4, r5, r6, r7⟩ := round_part hO (partition_holds lt) hpv.1 hpv.2 (show b' ≤ (rd lt dk a' b' lim wb wp).pi.1.size by omega) B3 hx
  have hs4 : d4.size = d.size := r3.trans hsz5
  have hS4 : So N Γ F v fl fs cl cs lt d4.size := by rw [hs4]; exact hS
  try simp (disch := first | omega | (simp only [PL]; omega)) only [PS, P1, P2, P3, P4, P5, P6, P7, P8, PA, PB, PC, Nat.reduceAdd, Nat.reduceSub, Nat.reduceMul, Nat.reduceLeDiff, Nat.reduceEqDiff, Nat.succ_ne_self, reduceCtorEq, Int.reduceToNat, Int.cast_ofNat_Int, Int.reduceEq, Int.reduceNe, Int.reduceLT, Int.reduceLE]
  refine i_call H105 ⟨F, v, fl, fs, cl, cs, lt, (rd lt dk a' b' lim wb wp).pi.1, a', b', (rd lt dk a' b' lim wb wp).pivot, rfl, hS5, hR6, by omega, by omega, by omega, fun H7 hR7 hk7 => ?_⟩
  rw [hx] at hR7 ⊢
  have hkv7 := hkv6.trans hk7
  have hwl : IntKind.i64.wrap ((mid : Int) - a') = ((mid - a' : Nat) : Int) := by rw [w64 (by omega) (by omega)]; omega
  have hwr : IntKind.i64.wrap ((b' : Int) - mid) = ((b' - mid : Nat) : Int) := by rw [w64 (by omega) (by omega)]; omega
  have hw8 : Int.tdiv ((b' - a' : Nat) : Int) 8 = (((b' - a') / 8 : Nat) : Int) := rfl
  have hwm : IntKind.i64.wrap ((mid : Int) + 1) = ((mid + 1 : Nat) : Int) := by rw [w64 (by omega) (by omega)]; omega
  try simp (disch := first | omega | (simp only [PL]; omega)) only [PS, P1, P2, P3, P4, P5, P6, P7, P8, PA, PB, PC, Nat.reduceAdd, Nat.reduceSub, Nat.reduceMul, Nat.reduceLeDiff, Nat.reduceEqDiff, Nat.succ_ne_self, reduceCtorEq, Int.reduceToNat, Int.cast_ofNat_Int, Int.reduceEq, Int.reduceNe, Int.reduceLT, Int.reduceLE, hwl, hwr, hw8]
  by_cases h4 : mid - a' < b' - mid
  · have h4' : (((mid - a' : Nat) : Int) < ((b' - mid : Nat) : Int)) = True := by rw [eq_iff_iff]; simp; omega
    have hnx := pdq_left h12 hl0 hp2 h87 (by rw [hx]; exact ⟨r1, r2⟩) (by rw [hx]; exact h4)
    rw [hx] at hnx
    obtain ⟨pL, sL⟩ := pdq_sorts lt hO d4 a' mid (rd lt dk a' b' lim wb wp).lim true true r1 (by omega) r4
    try simp (disch := first | omega | (simp only [PL]; omega)) only [PS, P1, P2, P3, P4, P5, P6, P7, P8, PA, PB, PC, Nat.reduceAdd, Nat.reduceSub, Nat.reduceMul, Nat.reduceLeDiff, Nat.reduceEqDiff, Nat.succ_ne_self, reduceCtorEq, Int.reduceToNat, Int.cast_ofNat_Int, Int.reduceEq, Int.reduceNe, Int.reduceLT, Int.reduceLE, h4']
    refine i_call (H77 (mid - a') (by omega)) ⟨F, v, fl, fs, cl, cs, lt, d4, a', mid, (rd lt dk a' b' lim wb wp).lim, rfl, hS4, hO, hR7, r1, by omega, Nat.le_refl _, by omega, r4, fun H8 hR8 hk8 => ?_⟩
    try simp (disch := first | omega | (simp only [PL]; omega)) only [PS, P1, P2, P3, P4, P5, P6, P7, P8, PA, PB, PC, Nat.reduceAdd, Nat.reduceSub, Nat.reduceMul, Nat.reduceLeDiff, Nat.reduceEqDiff, Nat.succ_ne_self, reduceCtorEq, Int.reduceToNat, Int.cast_ofNat_Int, Int.reduceEq, Int.reduceNe, Int.reduceLT, Int.reduceLE, hwm]
    exact k_loop (mid + 1, b', (rd lt dk a' b' lim wb wp).lim, decide (mid - a' ≥ (b' - a') / 8), ap, pdq lt d4 a' mid (rd lt dk a' b' lim wb wp).lim true true) (by dsimp only; omega) (by dsimp only; try simp only [Pe, and_true, true_and, and_self]; exact congrArg Value.bool (decide_eq_decide.2 (by omega))) ⟨by dsimp only; omega, by dsimp only; omega, hbb, by dsimp only; omega, pL.1.trans hs4, (r6 _ pL sL).1, hR8, hkv7.trans hk8, by rw [← hP, hnx]⟩
  · have h4' : (((mid - a' : Nat) : Int) < ((b' - mid : Nat) : Int)) = False := by rw [eq_iff_iff]; simp; omega
    have hnx := pdq_right h12 hl0 hp2 h87 (by rw [hx]; exact ⟨r1, r2⟩) (by rw [hx]; exact h4)
    rw [hx] at hnx
    obtain ⟨pL, sL⟩ := pdq_sorts lt hO d4 (mid + 1) b' (rd lt dk a' b' lim wb wp).lim true true (by omega) (by omega) r5
    try simp (disch := first | omega | (simp only [PL]; omega)) only [PS, P1, P2, P3, P4, P5, P6, P7, P8, PA, PB, PC, Nat.reduceAdd, Nat.reduceSub, Nat.reduceMul, Nat.reduceLeDiff, Nat.reduceEqDiff, Nat.succ_ne_self, reduceCtorEq, Int.reduceToNat, Int.cast_ofNat_Int, Int.reduceEq, Int.reduceNe, Int.reduceLT, Int.reduceLE, h4', hwm]
    refine i_call (H77 (b' - (mid + 1)) (by omega)) ⟨F, v, fl, fs, cl, cs, lt, d4, mid + 1, b', (rd lt dk a' b' lim wb wp).lim, rfl, hS4, hO, hR7, by omega, by omega, Nat.le_refl _, by omega, r5, fun H8 hR8 hk8 => ?_⟩
    try simp (disch := first | omega | (simp only [PL]; omega)) only [PS, P1, P2, P3, P4, P5, P6, P7, P8, PA, PB, PC, Nat.reduceAdd, Nat.reduceSub, Nat.reduceMul, Nat.reduceLeDiff, Nat.reduceEqDiff, Nat.succ_ne_self, reduceCtorEq, Int.reduceToNat, Int.cast_ofNat_Int, Int.reduceEq, Int.reduceNe, Int.reduceLT, Int.reduceLE]
    exact k_loop (a', mid, (rd lt dk a' b' lim wb wp).lim, decide (b' - mid ≥ (b' - a') / 8), ap, pdq lt d4 (mid + 1) b' (rd lt dk a' b' lim wb wp).lim true true) (by dsimp only; omega) (by dsimp only; try simp only [Pe, and_true, true_and, and_self]; exact congrArg Value.bool (decide_eq_decide.2 (by omega))) ⟨haa, by dsimp only; omega, by dsimp only; omega, by dsimp only; omega, pL.1.trans hs4, (r7 _ pL sL).1, hR8, hkv7.trans hk8, by rw [← hP, hnx]⟩
end Go.Cw
/- What is asked of Go's own sort.Slice over sights. -/
namespace Go.Cw
open Go Go.Sort Go.Proofs

/-- what is asked of sort.Slice's less -/
def Less (N : Num) (Γ : Ctx) (F : Heap) (v : Value) (fl : Nat) (cl : Array Value) (lt : Si → Si → Bool) (n : Nat) : Prop :=
  ∀ (H : Heap) (d : Array Si) (i j : Nat) (K : Value → Heap → Prop), d.size = n → Rw F H v d → i < n → j < n → (∀ H', Heap.le H H' → K (.bool (lt d[i]! d[j]!)) H') → efW N Γ .cal [.func (.func fl) #[] cl, .int .i64 i, .int .i64 j] H K
def S61 (N : Num) (Γ : Ctx) : Spec := fun args h K => ∃ F v fl cl lt d, args = [.iface (N.tid 64) v, .func (.func fl) #[] cl] ∧ Less N Γ F v fl cl lt d.size ∧ d.size ≤ 100000000 ∧ SWO lt ∧ Rw F h v d ∧
  ∀ h' d', Rw F h' v d' → PermIn 0 d.size d d' → SortedIn lt 0 d.size d' → kv v h h' → K (.tuple #[]) h'
end Go.Cw
/- Go's own sort.Slice over sights, as a contract. -/
namespace Go.Cw
open Go Go.Sort Go.Proofs

theorem flat4 : ∀ (l : List Si) (t : Nat), t < l.length * 4 → (l.flatMap Si.enc)[t]? = some ((Si.enc (l.getD (t / 4) default)).getD (t % 4) undef) := by
  intro l
  induction l with
  | nil => intro t h; simp at h
  | cons x l ih =>
    intro t h
    rw [List.flatMap_cons]
    by_cases ht : t < 4
    · rw [List.getElem?_append_left (by rw [Si.enc_len]; exact ht)]
      have h1 : t / 4 = 0 := by omega
      have h2 : t % 4 = t := by omega
      rw [h1, h2, List.getD_cons_zero, List.getElem?_eq_getElem (by rw [Si.enc_len]; exact ht), List.getD_eq_getElem?_getD, List.getElem?_eq_getElem (by rw [Si.enc_len]; exact ht)]
      rfl
    · rw [List.getElem?_append_right (by rw [Si.enc_len]; omega), Si.enc_len, ih (t - 4) (by simp only [List.length_cons] at h; omega)]
      have h1 : t / 4 = (t - 4) / 4 + 1 := by omega
      have h2 : t % 4 = (t - 4) % 4 := by omega
      rw [h1, h2, List.getD_cons_succ]
theorem getBang (l : List Value) (i : Nat) (h : i < l.length) : l[i]! = l.getD i undef := by
  rw [List.getElem!_eq_getElem?_getD, List.getD_eq_getElem?_getD, List.getElem?_eq_getElem h]; rfl
theorem flatK_at (d : Array Si) (t : Nat) (h : t < d.size * 4) : (flatK Si.enc 4 d)[t]! = (Si.enc (d.toList.getD (t / 4) default)).getD (t % 4) undef := by
  rw [get_flatK _ _ _ _ h]
  have h1 : t / 4 < d.size := by omega
  have h2 : d[t / 4]! = d.toList.getD (t / 4) default := by
    rw [getElem!_pos d _ h1, List.getD_eq_getElem?_getD]
    simp [h1]
  rw [h2]
  have h3 : t % 4 < (Si.enc (d.toList.getD (t / 4) default)).length := by rw [Si.enc_len]; omega
  exact getBang _ _ h3
/-- a slice that is not nil -/
theorem Rw.blk {F h : Heap} {v : Value} {d : Array Si} (a : Rw F h v d) (hn : d.size ≠ 0) : ∃ b c t cap, v = .slice (some ⟨b, 0, none⟩) d.size cap ∧ h b = some (.cells c t (0, 0)) ∧ d.size * 4 ≤ c.size ∧ (∀ i, i < d.size * 4 → c[i]? = some ((flatK Si.enc 4 d)[i]!)) ∧ c.size = cap * 4 ∧ cap ≤ maxLen ∧ d.size ≤ cap ∧ F b = none := by
  obtain ⟨a0, ad, cap, rfl, h1, h2, h3⟩ := a
  simp only [Array.length_toList] at h1
  rcases h3 with ⟨_, e, _⟩ | ⟨b, c, t, rfl, hF, hb, hcs, hc⟩
  · exact absurd (by simpa using e) hn
  · refine ⟨b, c, t, cap, by simp, hb, by omega, fun i hi => ?_, hcs, h2, h1, hF⟩
    have hl : (d.toList.flatMap Si.enc).length = d.size * 4 := by rw [flat_len Si.enc_len]; simp
    rw [hc i (by rw [hl]; exact hi), flat4 _ _ (by simpa using hi), flatK_at _ _ hi]
theorem Rw.holds {h : Heap} {w : World} {d : Array Si} {b : Nat} {c : Array Value} {t : TypeId} (hs : h.sub w) (hb : h b = some (.cells c t (0, 0))) (hc : ∀ i, i < d.size * 4 → c[i]? = some ((flatK Si.enc 4 d)[i]!)) : HoldsK Si.enc 4 w b 0 d := by
  intro j hj
  rw [size_flatK] at hj
  have hwb := hs b _ hb
  constructor
  · simp only [World.cell?, hwb, Nat.zero_add]
    rw [hc j hj]; rfl
  · simp [World.frozen?, hwb]
/-- the row is laid anew -/
theorem Rw.lay {F h : Heap} {w : World} {v : Value} {d d' : Array Si} {b cap : Nat} {c : Array Value} {t : TypeId} (a : Rw F h v d) (hv : v = .slice (some ⟨b, 0, none⟩) d.size cap) (hs : h.sub w) (hb : h b = some (.cells c t (0, 0))) (hcs : c.size = cap * 4) (hcap : cap ≤ maxLen) (hdc : d.size ≤ cap) (hsz : d'.size = d.size) (hF : F b = none) :
    ∃ h', Rw F h' v d' ∧ kv v h h' ∧ WStep h h' w (putRowK Si.enc 4 w b 0 d') := by
  have hwb := hs b _ hb
  have hlt := (Array.getElem?_eq_some_iff.1 hwb).1
  refine ⟨h.set b (.cells (putCells id 0 (flatK Si.enc 4 d') c) t (0, 0)), ⟨?_, some ⟨b, 0, none⟩, cap, by rw [hv]; simp [hsz], by simp [hsz]; exact hdc, hcap, .inr ⟨b, putCells id 0 (flatK Si.enc 4 d') c, t, rfl, hF, by simp [Heap.set], by simp only [putCells, Array.size_mapIdx]; exact hcs, fun i hi => ?_⟩⟩, fun x o hx hne => ?_, ⟨fun x o hx => ?_, ?_, rfl, rfl, rfl, fun x hx hn => ⟨?_, ?_⟩⟩⟩
  · intro x o hx
    have : x ≠ b := by rintro rfl; rw [hF] at hx; cases hx
    rw [Heap.set_ne this]; exact a.1 x o hx
  · have hl : (d'.toList.flatMap Si.enc).length = d'.size * 4 := by rw [flat_len Si.enc_len]; simp
    rw [hl] at hi
    rw [flat4 _ _ (by simpa using hi)]
    have hic : i < c.size := by omega
    simp only [putCells, Array.getElem?_mapIdx, Array.getElem?_eq_getElem hic, Option.map_some]
    rw [if_pos ⟨by omega, by rw [size_flatK]; omega⟩, Nat.sub_zero, flatK_at _ _ hi]; rfl
  · have : x ≠ b := by rintro rfl; rw [hv] at hne; exact hne rfl
    rw [Heap.set_ne this]; exact hx
  · by_cases e : x = b
    · subst e
      simp only [Heap.set, if_true] at hx
      cases hx
      simp [putRowK, Go.Sort.putRow, mapBlock, Array.getElem?_modify, hwb, onCells]
    · rw [Heap.set_ne e] at hx
      have hwx := hs x o hx
      simp [putRowK, Go.Sort.putRow, mapBlock, Array.getElem?_modify, hwx, Ne.symm e]
  · simp [putRowK]
  · have : x ≠ b := by rintro rfl; rw [hn] at hb; cases hb
    rw [Heap.set_ne this]; exact hn
  · have e : x ≠ b := by rintro rfl; rw [hn] at hb; cases hb
    simp [putRowK, Go.Sort.putRow, mapBlock, Array.getElem?_modify, Ne.symm e]

theorem FC.fb {P : Program} {f : FuncId} {args : List Value} {h : Heap} {K : Value → Heap → Prop} {w : World} (hc : FC P f args h K) (hs : h.sub w) {fn : Func} (hn : P.funcs[f]? = some fn) (hb : (fn.body.isNone || fn.name == "runtime.NumGoroutine") = false) :
    Calls P f args.toArray w fun e w' => ∃ v h', e = .returned v ∧ K v h' ∧ WStep h h' w w' := by
  simp only [Bool.or_eq_false_iff] at hb
  rcases hc with hc | hc
  · exact hc.2 w hs
  · exfalso
    obtain ⟨v, h', w', h1, _⟩ := hc w hs
    have hn' : fn.name ≠ "runtime.NumGoroutine" := by simpa using hb.2
    obtain ⟨c, hc⟩ : ∃ c, fn.body = some c := by
      cases hh : fn.body with
      | none => rw [hh] at hb; simp at hb
      | some c => exact ⟨c, rfl⟩
    simp [callFunc, program, Sem.run, hn, hn', hc] at h1
theorem WStep.growW {h : Heap} {w : World} (hs : h.sub w) (os : Array Obj) : WStep h h w (grow w os) := by
  refine ⟨fun x o hx => ?_, by rw [size_grow]; omega, rfl, rfl, rfl, fun x hx hn => ⟨hn, heap_grow_old _ _ hx⟩⟩
  have := hs x o hx
  rw [heap_grow_old _ _ (Array.getElem?_eq_some_iff.1 this).1]; exact this
theorem swapperK_two (n : Nat) (ie : TypeInfo) (ke : Nat) (h : 2 ≤ n) : Go.Lib.swapperK n ie ke = Go.Lib.swapperK 2 ie ke := by
  unfold Go.Lib.swapperK
  have h0 : (n == 0) = false := by simp; omega
  have h1 : (n == 1) = false := by simp; omega
  rw [h0, h1]; rfl
theorem c61_of {P : Program} {N : Num} {ρ : Go.Shelf.Ren} (L : LaysGg.n6 P ρ) (e : TypeId) (i ie : TypeInfo) (hi : P.info? (N.tid 64) = some i) (hd : i.desc = .slice e) (hpk : P.packed (N.tid 64) = false) (hie : P.info? e = some ie) (ke : Nat) (hke : ∀ w, (Extern.Rtype.kind e).run P w = .ok ke w)
    (h77 : N.fid 77 = ρ.f 14) (c77 : ∀ n, Sat (S77 N (GF P N) n) (GF P N 77)) {fn : Func} (hfn : P.funcs[ρ.f 14]? = some fn) (hbody : (fn.body.isNone || fn.name == "runtime.NumGoroutine") = false)
    (f1 f2 k9 : Nat) (hf1 : P.funcs.findIdx? (·.name == "internal/reflectlite" ++ ".Swapper$" ++ toString (Go.Lib.swapperK 0 ie ke)) = some f1) (hf2 : P.funcs.findIdx? (·.name == "internal/reflectlite" ++ ".Swapper$" ++ toString (Go.Lib.swapperK 1 ie ke)) = some f2)
    (hf9 : P.funcs.findIdx? (·.name == "internal/reflectlite" ++ ".Swapper$" ++ toString (Go.Lib.swapperK 2 ie ke)) = some (N.fid k9))
    (hs1 : ie.size = 4) (hagg : ∀ w, (isAgg e).run P w = .ok true w) (gS : Bool) (hx : ∀ args W, (callFunc (N.fid k9) args).run P W = ((Extern.ReflectliteSwapper.swap gS args).run P W).andThen fun v w' => .ok (.value v) w') :
    ∀ args h K, S61 N (GF P N) args h K → ∀ w, h.sub w → Calls P (ρ.f 6) args.toArray w fun e w' => ∃ v h', e = .returned v ∧ K v h' ∧ WStep h h' w w' := by
  rintro _ h K ⟨F, v, fl, cl, lt, d, rfl, hless, hsz, hO, hR, hK⟩ w hs
  by_cases h2 : 2 ≤ d.size
  rotate_left
  · obtain ⟨_, a, cap, rfl, _⟩ := id hR
    have hn1 : d.toList.length ≤ 1 := by simp; omega
    obtain ⟨f, hf⟩ : ∃ f, P.funcs.findIdx? (·.name == "internal/reflectlite" ++ ".Swapper$" ++ toString (Go.Lib.swapperK d.toList.length ie ke)) = some f := by
      rcases Nat.le_one_iff_eq_zero_or_eq_one.1 hn1 with e | e <;> rw [e]
      · exact ⟨f1, hf1⟩
      · exact ⟨f2, hf2⟩
    refine (Any.sort_Slice_tiny L (N.tid 64) e i ie hi hd hpk hie ke hke a d.toList.length cap hn1 f hf (.func fl) #[] cl w).mono ?_
    rintro e' w' ⟨rfl, os, rfl⟩
    exact ⟨_, h, rfl, hK h d hR (permIn_refl d 0 d.size) (fun i j _ h1 h2' => by omega) kv.refl, WStep.growW hs os⟩
  obtain ⟨b, c, t, cap, hv, hb, hcs1, hc, hcs, hcap, hdc, hF⟩ := hR.blk (by omega)
  have hf9' := hf9
  rw [← swapperK_two d.size ie ke h2] at hf9'
  rw [hv]
  have hB : sliceBound P e ie ke (some ⟨b, 0, none⟩) d.size cap = #[.slice (some ⟨b, 0, none⟩) d.size cap, typeHandle P e] := by
    unfold sliceBound; rw [if_neg (swapperK_gt _ _ _ h2)]
  have hW : sliceWorld P ρ (N.tid 64) (some ⟨b, 0, none⟩) d.size cap w = grow w #[.cells #[.slice (some ⟨b, 0, none⟩) d.size cap] (N.tid 64), .cells #[.pointer (some ⟨P.globals.size, N.tid 64, none⟩), .pointer (some ⟨w.heap.size, 0, none⟩), .int .u64 151] (ρ.t 35)] := by
    unfold sliceWorld; rw [alloc_eq_grow, alloc_eq_grow, grow_grow]; rfl
  have hp := Any.sort_Slice_of_pdq L (N.tid 64) e i ie hi hd hpk hie ke hke (some ⟨b, 0, none⟩) d.size cap (by omega) (N.fid k9) hf9' (.func fl) #[] cl w (fun w' => ∃ h', K (.tuple #[]) h' ∧ WStep h h' w w') ?_
  · refine hp.mono ?_
    rintro e' w' ⟨rfl, h', h1, h2⟩
    exact ⟨_, h', rfl, h1, h2⟩
  rw [hB]
  generalize hos : sliceWorld P ρ (N.tid 64) (some ⟨b, 0, none⟩) d.size cap w = W at *
  have hstep : WStep h h w W := by rw [hW]; exact WStep.growW hs _
  have hSo : So N (GF P N) F v fl (N.fid k9) cl #[.slice (some ⟨b, 0, none⟩) d.size cap, typeHandle P e] lt d.size := by
    refine ⟨hless, fun H dk i' j' K' hdk hRk hi' hj' hK' => ?_, hsz⟩
    refine ⟨k9, rfl, rfl, .inr fun W2 hs2 => ?_⟩
    obtain ⟨b', c', t', cap', hv', hb', hcs1', hc', hcs', hcap', hdc', hF'⟩ := hRk.blk (by omega)
    rw [hv] at hv'
    simp only [Value.slice.injEq, Option.some.injEq, Addr.mk.injEq, and_true] at hv'
    obtain ⟨rfl, _, rfl⟩ := hv'
    have hH := Rw.holds (d := dk) hs2 hb' hc'
    have hsw := swapSwapsK_of_literal gS (N.fid k9) hx e ie hie Si.enc 4 Si.enc_len hs1 hagg (fun x v hv => by simp [Si.enc] at hv; rcases hv with rfl | rfl | rfl | rfl <;> rfl) b 0 d.size cap W2 dk hH hdk i' j' hi' hj'
    have hswp := swap_worldK Si.enc 4 Si.enc_len W2 0 0 b 0 dk i' j' (by omega) (by omega)
    have hself := putRowK_self Si.enc 4 W2 b 0 dk hH
    obtain ⟨H', hR', hk', hst⟩ := Rw.lay (d' := swp dk i' j') hRk (by rw [hv, hdk]) hs2 hb' hcs' hcap' hdc' (size_swp _ _ _) hF'
    refine ⟨.tuple #[], H', putRowK Si.enc 4 W2 b 0 (swp dk i' j'), ?_, hK' H' hR' hk', hst⟩
    have e0 : (putRowK Si.enc 4 (Go.Sort.ahead W2 0) b 0 dk).drewN 0 = W2 := by rw [ahead_zero, hself]; rfl
    rw [e0] at hswp
    rw [hswp] at hsw
    exact hsw
  have hlim : Go.Lib.bitLen d.size ≤ 1000 := Nat.le_trans (Go.Lib.bitLen_le d.size 62 (by omega) (by omega)) (by omega)
  have hfc := c77 d.size [.agg #[.func (.func fl) #[] cl, .func (.func (N.fid k9)) #[] #[.slice (some ⟨b, 0, none⟩) d.size cap, typeHandle P e]], .int .i64 (0 : Nat), .int .i64 d.size, .int .i64 (Go.Lib.bitLen d.size)] h (fun v' h' => v' = .tuple #[] ∧ K (.tuple #[]) h')
    ⟨F, v, fl, N.fid k9, cl, _, lt, d, 0, d.size, Go.Lib.bitLen d.size, rfl, hSo, hO, hR, Nat.zero_le _, Nat.le_refl _, by omega, hlim, Or.inl rfl, fun h' hR' hkv => ⟨rfl, ?_⟩⟩
  · have hcl := FC.fb (w := W) hfc hstep.sub (by rw [h77]; exact hfn) hbody
    rw [h77] at hcl
    refine hcl.mono ?_
    rintro e' w' ⟨v', h', rfl, ⟨rfl, hk⟩, hst⟩
    exact ⟨rfl, h', hk, hstep.trans hst⟩
  · obtain ⟨p1, p2⟩ := pdq_sorts lt hO d 0 d.size (Go.Lib.bitLen d.size) true true (Nat.zero_le _) (Nat.le_refl _) (Or.inl rfl)
    exact hK h' _ hR' p1 p2 hkv
end Go.Cw
/- Epochs: the order of sights. -/
namespace Go.Cw
open Go Go.Sort Go.Proofs

def befS (a b : Si) : Bool := if a.tag ≠ b.tag then Op.bytesLess a.tag b.tag else if a.time ≠ b.time then decide (a.time < b.time) else if a.place ≠ b.place then decide (a.place < b.place) else decide (a.strength < b.strength)
theorem befS_iff (a b : Si) : befS a b = true ↔ Op.bytesLess a.tag b.tag = true ∨ (a.tag = b.tag ∧ (a.time < b.time ∨ (a.time = b.time ∧ (a.place < b.place ∨ (a.place = b.place ∧ a.strength < b.strength))))) := by
  unfold befS
  by_cases h1 : a.tag = b.tag
  · rw [if_neg (by simp [h1]), h1, bless_irr]
    by_cases h2 : a.time = b.time
    · rw [if_neg (by simp [h2])]
      by_cases h3 : a.place = b.place
      · rw [if_neg (by simp [h3]), decide_eq_true_eq]; simp [h2, h3]
      · rw [if_pos h3, decide_eq_true_eq]; simp [h2, h3]
    · rw [if_pos h2, decide_eq_true_eq]; simp [h2]
  · rw [if_pos h1]; simp [h1]
theorem befS_irr (a : Si) : befS a a = false := by
  cases h : befS a a with
  | false => rfl
  | true =>
    have := (befS_iff a a).1 h
    rw [bless_irr] at this
    simp at this
theorem befS_trans {a b c : Si} (h1 : befS a b = true) (h2 : befS b c = true) : befS a c = true := by
  rw [befS_iff] at *
  rcases h1 with h1 | ⟨e1, h1⟩
  · rcases h2 with h2 | ⟨e2, _⟩
    · exact .inl (bless_trans h1 h2)
    · rw [← e2]; exact .inl h1
  · rcases h2 with h2 | ⟨e2, h2⟩
    · rw [e1]; exact .inl h2
    · exact .inr ⟨e1.trans e2, by omega⟩
theorem befS_tot {a b : Si} (h1 : befS a b = false) (h2 : a ≠ b) : befS b a = true := by
  have h1' : ¬ befS a b = true := by rw [h1]; simp
  rw [befS_iff] at h1' ⊢
  by_cases e1 : a.tag = b.tag
  · refine .inr ⟨e1.symm, ?_⟩
    have h3 : ¬ (a.time < b.time ∨ (a.time = b.time ∧ (a.place < b.place ∨ (a.place = b.place ∧ a.strength < b.strength)))) := fun h => h1' (.inr ⟨e1, h⟩)
    have h4 : ¬ (a.time = b.time ∧ a.place = b.place ∧ a.strength = b.strength) := by
      rintro ⟨x1, x2, x3⟩
      exact h2 (by cases a; cases b; simp_all)
    omega
  · refine .inl (bless_tot ?_ e1)
    cases hb : Op.bytesLess a.tag b.tag with
    | false => rfl
    | true => exact absurd (.inl hb) h1'
theorem befS_anti {a b : Si} (h1 : befS a b = false) (h2 : befS b a = false) : a = b := by
  by_cases e : a = b
  · exact e
  · rw [befS_tot h1 e] at h2; cases h2
theorem befS_swo : SWO befS where
  irrefl := befS_irr
  trans := fun _ _ _ h1 h2 => befS_trans h1 h2
  ntrans := fun x y z h1 h2 => by
    cases h3 : befS x z with
    | false => rfl
    | true =>
      by_cases e : x = y
      · subst e; rw [h3] at h2; cases h2
      · rw [befS_trans (befS_tot h1 e) h3] at h2; cases h2
def ordS (l : List Si) : Prop := l.Pairwise fun a b => befS b a = false
/-- one order -/
theorem ordS_uniq : ∀ {l m : List Si}, ordS l → ordS m → l.Perm m → l = m := by
  intro l
  induction l with
  | nil => intro m _ _ hp; exact hp.nil_eq
  | cons x l ih =>
    intro m hl hm hp
    cases m with
    | nil => exact absurd hp.length_eq (by simp)
    | cons y m =>
      have h1 := List.pairwise_cons.1 hl
      have h2 := List.pairwise_cons.1 hm
      have hxy : x = y := by
        have hx : x ∈ y :: m := hp.subset (by simp)
        have hy : y ∈ x :: l := hp.symm.subset (by simp)
        rw [List.mem_cons] at hx hy
        rcases hx with e | hx
        · exact e
        · rcases hy with e | hy
          · exact e.symm
          · exact befS_anti (h2.1 x hx) (h1.1 y hy)
      subst hxy
      rw [ih h1.2 h2.2 hp.cons_inv]
/-- what a sort leaves -/
theorem sorted_list {d d' : Array Si} (hp : PermIn 0 d.size d d') (hs : SortedIn befS 0 d.size d') : ordS d'.toList ∧ d'.toList.Perm d.toList := by
  have hsz : d'.size = d.size := hp.1
  constructor
  · refine List.pairwise_iff_getElem.2 fun i j hi hj hij => ?_
    simp only [Array.length_toList] at hi hj
    have := hs i j (Nat.zero_le _) hij (by omega)
    rw [getElem!_pos d' j hj, getElem!_pos d' i hi] at this
    simpa using this
  · have := hp.2.2
    rwa [← hsz, Array.extract_size, hsz, Array.extract_size] at this

/-- the model's way: one more -/
def posS (l : List Si) (s : Si) : Nat → Nat
  | 0 => 0
  | k + 1 => if befS s (l.getD k default) then posS l s k else k + 1
def insS (l : List Si) (s : Si) : List Si := l.take (posS l s l.length) ++ s :: l.drop (posS l s l.length)
theorem posS_le (l : List Si) (s : Si) : ∀ k, posS l s k ≤ k := by
  intro k
  induction k with
  | zero => simp [posS]
  | succ k ih => simp only [posS]; split <;> omega
theorem posS_spec (l : List Si) (s : Si) : ∀ k, (∀ i, posS l s k ≤ i → i < k → befS s (l.getD i default) = true) ∧ (0 < posS l s k → befS s (l.getD (posS l s k - 1) default) = false) := by
  intro k
  induction k with
  | zero => simp [posS]
  | succ k ih =>
    cases hb : befS s (l.getD k default) with
    | true =>
      have e : posS l s (k + 1) = posS l s k := by simp only [posS]; rw [if_pos hb]
      rw [e]
      refine ⟨fun i h1 h2 => ?_, ih.2⟩
      by_cases hi : i < k
      · exact ih.1 i h1 hi
      · have : i = k := by omega
        subst this; exact hb
    | false =>
      have e : posS l s (k + 1) = k + 1 := by simp only [posS]; rw [if_neg (by rw [hb]; simp)]
      rw [e]
      exact ⟨fun i h1 h2 => by omega, fun _ => by simpa using hb⟩
theorem insS_perm (l : List Si) (s : Si) : (insS l s).Perm (s :: l) := by
  unfold insS
  refine List.perm_middle.trans (List.Perm.cons s ?_)
  rw [List.take_append_drop]
theorem ordS_ins {l : List Si} (s : Si) (h : ordS l) : ordS (insS l s) := by
  have hsp := posS_spec l s l.length
  have hle := posS_le l s l.length
  generalize hp : posS l s l.length = p at *
  unfold insS
  rw [hp]
  have hT : ∀ x ∈ l.take p, befS s x = false := by
    intro x hx
    obtain ⟨i, hi, rfl⟩ := List.getElem_of_mem hx
    rw [List.length_take] at hi
    rw [List.getElem_take]
    have h1 := hsp.2 (by omega)
    by_cases hil : i = p - 1
    · subst hil
      rw [List.getD_eq_getElem?_getD, List.getElem?_eq_getElem (by omega)] at h1
      exact h1
    · have h2 := List.pairwise_iff_getElem.1 h i (p - 1) (by omega) (by omega) (by omega)
      rw [List.getD_eq_getElem?_getD, List.getElem?_eq_getElem (by omega)] at h1
      exact befS_swo.ntrans _ _ _ h1 h2
  have hD : ∀ x ∈ l.drop p, befS x s = false := by
    intro x hx
    obtain ⟨i, hi, rfl⟩ := List.getElem_of_mem hx
    rw [List.length_drop] at hi
    rw [List.getElem_drop]
    have h1 := hsp.1 (p + i) (by omega) (by omega)
    rw [List.getD_eq_getElem?_getD, List.getElem?_eq_getElem (by omega)] at h1
    cases hb : befS l[p + i] s with
    | false => rfl
    | true => have := befS_trans h1 hb; rw [befS_irr] at this; cases this
  refine List.pairwise_append.2 ⟨h.sublist (List.take_sublist _ _), List.pairwise_cons.2 ⟨hD, h.sublist (List.drop_sublist _ _)⟩, fun a ha b hb => ?_⟩
  rw [List.mem_cons] at hb
  rcases hb with rfl | hb
  · exact hT a ha
  · have h3 := List.pairwise_append.1 (show (l.take p ++ l.drop p).Pairwise fun a b => befS b a = false by rw [List.take_append_drop]; exact h)
    exact h3.2.2 a ha b hb
def ofL (l : List Si) : List Si := l.foldl insS []
theorem ofL_snoc (l : List Si) (s : Si) : ofL (l ++ [s]) = insS (ofL l) s := by simp [ofL]
theorem ofL_ord (l : List Si) : ordS (ofL l) ∧ (ofL l).Perm l := by
  induction l using snoc_ind with
  | h0 => simp [ofL, ordS]
  | hs l s ih =>
    rw [ofL_snoc]
    refine ⟨ordS_ins s ih.1, (insS_perm _ _).trans (((List.perm_cons s).2 ih.2).trans ?_)⟩
    exact (List.perm_append_comm (l₁ := [s]) (l₂ := l))
theorem sorted_ofL {d d' : Array Si} (hp : PermIn 0 d.size d d') (hs : SortedIn befS 0 d.size d') : d'.toList = ofL d.toList := by
  obtain ⟨h1, h2⟩ := sorted_list hp hs
  obtain ⟨h3, h4⟩ := ofL_ord d.toList
  exact ordS_uniq h1 h3 (h2.trans h4.symm)
end Go.Cw
namespace Go.Cw
open Go Go.Sort Go.Proofs

def aggS (s : Si) : Value := .agg #[.int .i64 s.place, .int .i64 s.strength, .int .i64 s.time, .string (str s.tag)]
def S63 : Spec := fun args h K => ∃ a b, args = [aggS a, aggS b] ∧ K (.bool (befS a b)) h
theorem F63_ok {N : Num} {Γ : Ctx} [GoodC Γ] : Sat S63 (SF N Γ F63) := by
  rintro _ h K ⟨a, b, rfl, hK⟩
  unfold befS at hK
  refine i_fun rfl ?_
  simp only [F63, env0, List.map, List.length, List.replicate, List.cons_append, List.nil_append, Nat.reduceSub, Nat.reduceAdd, aggS]
  try simp (disch := first | omega | (simp only [PL]; omega)) only [PS, P1, P2, P3, P4, P5, P6, P7, P8, PA, PB, PC, Nat.reduceAdd, Nat.reduceSub, Nat.reduceMul, Nat.reduceLeDiff, Nat.reduceEqDiff, Nat.succ_ne_self, reduceCtorEq, Int.reduceToNat, Int.cast_ofNat_Int, Int.reduceEq, Int.reduceNe, Int.reduceLT, Int.reduceLE]
  refine i_cond (fun c1 => ?_) (fun c1 => ?_)
  · rw [if_pos c1] at hK
    try simp (disch := first | omega | (simp only [PL]; omega)) only [PS, P1, P2, P3, P4, P5, P6, P7, P8, PA, PB, PC, Nat.reduceAdd, Nat.reduceSub, Nat.reduceMul, Nat.reduceLeDiff, Nat.reduceEqDiff, Nat.succ_ne_self, reduceCtorEq, Int.reduceToNat, Int.cast_ofNat_Int, Int.reduceEq, Int.reduceNe, Int.reduceLT, Int.reduceLE]
    exact hK
  rw [if_neg c1] at hK
  try simp (disch := first | omega | (simp only [PL]; omega)) only [PS, P1, P2, P3, P4, P5, P6, P7, P8, PA, PB, PC, Nat.reduceAdd, Nat.reduceSub, Nat.reduceMul, Nat.reduceLeDiff, Nat.reduceEqDiff, Nat.succ_ne_self, reduceCtorEq, Int.reduceToNat, Int.cast_ofNat_Int, Int.reduceEq, Int.reduceNe, Int.reduceLT, Int.reduceLE]
  refine i_cond (fun c2 => ?_) (fun c2 => ?_)
  · rw [if_pos c2] at hK
    try simp (disch := first | omega | (simp only [PL]; omega)) only [PS, P1, P2, P3, P4, P5, P6, P7, P8, PA, PB, PC, Nat.reduceAdd, Nat.reduceSub, Nat.reduceMul, Nat.reduceLeDiff, Nat.reduceEqDiff, Nat.succ_ne_self, reduceCtorEq, Int.reduceToNat, Int.cast_ofNat_Int, Int.reduceEq, Int.reduceNe, Int.reduceLT, Int.reduceLE]
    exact hK
  rw [if_neg c2] at hK
  try simp (disch := first | omega | (simp only [PL]; omega)) only [PS, P1, P2, P3, P4, P5, P6, P7, P8, PA, PB, PC, Nat.reduceAdd, Nat.reduceSub, Nat.reduceMul, Nat.reduceLeDiff, Nat.reduceEqDiff, Nat.succ_ne_self, reduceCtorEq, Int.reduceToNat, Int.cast_ofNat_Int, Int.reduceEq, Int.reduceNe, Int.reduceLT, Int.reduceLE]
  refine i_cond (fun c3 => ?_) (fun c3 => ?_)
  · rw [if_pos c3] at hK
    try simp (disch := first | omega | (simp only [PL]; omega)) only [PS, P1, P2, P3, P4, P5, P6, P7, P8, PA, PB, PC, Nat.reduceAdd, Nat.reduceSub, Nat.reduceMul, Nat.reduceLeDiff, Nat.reduceEqDiff, Nat.succ_ne_self, reduceCtorEq, Int.reduceToNat, Int.cast_ofNat_Int, Int.reduceEq, Int.reduceNe, Int.reduceLT, Int.reduceLE]
    exact hK
  rw [if_neg c3] at hK
  try simp (disch := first | omega | (simp only [PL]; omega)) only [PS, P1, P2, P3, P4, P5, P6, P7, P8, PA, PB, PC, Nat.reduceAdd, Nat.reduceSub, Nat.reduceMul, Nat.reduceLeDiff, Nat.reduceEqDiff, Nat.succ_ne_self, reduceCtorEq, Int.reduceToNat, Int.cast_ofNat_Int, Int.reduceEq, Int.reduceNe, Int.reduceLT, Int.reduceLE]
  exact hK
def S78 : Spec := S63
theorem F78_ok {N : Num} {Γ : Ctx} [GoodC Γ] : Sat S78 (SF N Γ F78) := by
  rintro _ h K ⟨a, b, rfl, hK⟩
  unfold befS at hK
  refine i_fun rfl ?_
  simp only [F78, env0, List.map, List.length, List.replicate, List.cons_append, List.nil_append, Nat.reduceSub, Nat.reduceAdd, aggS]
  try simp (disch := first | omega | (simp only [PL]; omega)) only [PS, P1, P2, P3, P4, P5, P6, P7, P8, PA, PB, PC, Nat.reduceAdd, Nat.reduceSub, Nat.reduceMul, Nat.reduceLeDiff, Nat.reduceEqDiff, Nat.succ_ne_self, reduceCtorEq, Int.reduceToNat, Int.cast_ofNat_Int, Int.reduceEq, Int.reduceNe, Int.reduceLT, Int.reduceLE]
  refine i_cond (fun c1 => ?_) (fun c1 => ?_)
  · rw [if_pos c1] at hK
    try simp (disch := first | omega | (simp only [PL]; omega)) only [PS, P1, P2, P3, P4, P5, P6, P7, P8, PA, PB, PC, Nat.reduceAdd, Nat.reduceSub, Nat.reduceMul, Nat.reduceLeDiff, Nat.reduceEqDiff, Nat.succ_ne_self, reduceCtorEq, Int.reduceToNat, Int.cast_ofNat_Int, Int.reduceEq, Int.reduceNe, Int.reduceLT, Int.reduceLE]
    exact hK
  rw [if_neg c1] at hK
  try simp (disch := first | omega | (simp only [PL]; omega)) only [PS, P1, P2, P3, P4, P5, P6, P7, P8, PA, PB, PC, Nat.reduceAdd, Nat.reduceSub, Nat.reduceMul, Nat.reduceLeDiff, Nat.reduceEqDiff, Nat.succ_ne_self, reduceCtorEq, Int.reduceToNat, Int.cast_ofNat_Int, Int.reduceEq, Int.reduceNe, Int.reduceLT, Int.reduceLE]
  refine i_cond (fun c2 => ?_) (fun c2 => ?_)
  · rw [if_pos c2] at hK
    try simp (disch := first | omega | (simp only [PL]; omega)) only [PS, P1, P2, P3, P4, P5, P6, P7, P8, PA, PB, PC, Nat.reduceAdd, Nat.reduceSub, Nat.reduceMul, Nat.reduceLeDiff, Nat.reduceEqDiff, Nat.succ_ne_self, reduceCtorEq, Int.reduceToNat, Int.cast_ofNat_Int, Int.reduceEq, Int.reduceNe, Int.reduceLT, Int.reduceLE]
    exact hK
  rw [if_neg c2] at hK
  try simp (disch := first | omega | (simp only [PL]; omega)) only [PS, P1, P2, P3, P4, P5, P6, P7, P8, PA, PB, PC, Nat.reduceAdd, Nat.reduceSub, Nat.reduceMul, Nat.reduceLeDiff, Nat.reduceEqDiff, Nat.succ_ne_self, reduceCtorEq, Int.reduceToNat, Int.cast_ofNat_Int, Int.reduceEq, Int.reduceNe, Int.reduceLT, Int.reduceLE]
  refine i_cond (fun c3 => ?_) (fun c3 => ?_)
  · rw [if_pos c3] at hK
    try simp (disch := first | omega | (simp only [PL]; omega)) only [PS, P1, P2, P3, P4, P5, P6, P7, P8, PA, PB, PC, Nat.reduceAdd, Nat.reduceSub, Nat.reduceMul, Nat.reduceLeDiff, Nat.reduceEqDiff, Nat.succ_ne_self, reduceCtorEq, Int.reduceToNat, Int.cast_ofNat_Int, Int.reduceEq, Int.reduceNe, Int.reduceLT, Int.reduceLE]
    exact hK
  rw [if_neg c3] at hK
  try simp (disch := first | omega | (simp only [PL]; omega)) only [PS, P1, P2, P3, P4, P5, P6, P7, P8, PA, PB, PC, Nat.reduceAdd, Nat.reduceSub, Nat.reduceMul, Nat.reduceLeDiff, Nat.reduceEqDiff, Nat.succ_ne_self, reduceCtorEq, Int.reduceToNat, Int.cast_ofNat_Int, Int.reduceEq, Int.reduceNe, Int.reduceLT, Int.reduceLE]
  exact hK
def S62 : Spec := fun args h K => ∃ b v l, ∃ i j : Nat, args = [.int .i64 i, .int .i64 j, .pointer (some ⟨b, 0, none⟩)] ∧ h.cell ⟨b, 0, none⟩ = some v ∧ Sl Si.enc h v l ∧ i < l.length ∧ j < l.length ∧ K (.bool (befS (l.getD i default) (l.getD j default))) h
theorem F62_ok {N : Num} {Γ : Ctx} [GoodC Γ] (H63 : Sat S63 (Γ 63)) : Sat S62 (SF N Γ F62) := by
  rintro _ h K ⟨b, v, l, i, j, rfl, hc, hS, hi, hj, hK⟩
  refine i_fun rfl ?_
  simp only [F62, env0, List.map, List.length, List.replicate, List.cons_append, List.nil_append, Nat.reduceSub, Nat.reduceAdd]
  have R := hS.rules 4 Si.enc_len default
  try simp (disch := first | omega | (simp only [PL]; omega)) only [PS, P1, P2, P3, P4, P5, P6, P7, P8, PA, PB, PC, Nat.reduceAdd, Nat.reduceSub, Nat.reduceMul, Nat.reduceLeDiff, Nat.reduceEqDiff, Nat.succ_ne_self, reduceCtorEq, Int.reduceToNat, Int.cast_ofNat_Int, Int.reduceEq, Int.reduceNe, Int.reduceLT, Int.reduceLE, hc, R]
  refine i_call H63 ⟨l.getD i default, l.getD j default, rfl, ?_⟩
  try simp (disch := first | omega | (simp only [PL]; omega)) only [PS, P1, P2, P3, P4, P5, P6, P7, P8, PA, PB, PC, Nat.reduceAdd, Nat.reduceSub, Nat.reduceMul, Nat.reduceLeDiff, Nat.reduceEqDiff, Nat.succ_ne_self, reduceCtorEq, Int.reduceToNat, Int.cast_ofNat_Int, Int.reduceEq, Int.reduceNe, Int.reduceLT, Int.reduceLE]
  exact hK

/-- how many epochs are closed -/
def clos (size late now : Nat) : Nat := (now - late) / size
theorem clos_iff {size late now k : Nat} (hs : 0 < size) : (k + 1) * size + late ≤ now ↔ k < clos size late now := by
  unfold clos
  rw [Nat.lt_iff_add_one_le, Nat.le_div_iff_mul_le hs]
  have : size ≤ (k + 1) * size := Nat.le_mul_of_pos_left size (by omega)
  omega
theorem clos_le {size late now : Nat} : clos size late now ≤ now := Nat.le_trans (Nat.div_le_self _ _) (by omega)
def S41 : Spec := fun args h K => ∃ a, ∃ size late now : Nat, args = [.pointer (some ⟨a, 0, none⟩)] ∧ h.cell ((⟨a, 0, none⟩ : Addr).add 0) = some (.int .i64 size) ∧ h.cell ((⟨a, 0, none⟩ : Addr).add 1) = some (.int .i64 late) ∧ h.cell ((⟨a, 0, none⟩ : Addr).add 2) = some (.int .i64 now) ∧ 0 < size ∧ size ≤ 1000 ∧ late ≤ 1000 ∧ now ≤ 1000 ∧ K (.int .i64 (clos size late now : Nat)) h
theorem F41_ok {N : Num} {Γ : Ctx} [GoodC Γ] : Sat S41 (SF N Γ F41) := by
  rintro _ h K ⟨a, size, late, now, rfl, h0, h1, h2, hs1, hs2, hl, hn, hK⟩
  refine i_fun rfl ?_
  simp only [F41, env0, List.map, List.length, List.replicate, List.cons_append, List.nil_append, Nat.reduceSub, Nat.reduceAdd]
  have hcl := clos_le (size := size) (late := late) (now := now)
  try simp (disch := first | omega | (simp only [PL]; omega)) only [PS, P1, P2, P3, P4, P5, P6, P7, P8, PA, PB, PC, Nat.reduceAdd, Nat.reduceSub, Nat.reduceMul, Nat.reduceLeDiff, Nat.reduceEqDiff, Nat.succ_ne_self, reduceCtorEq, Int.reduceToNat, Int.cast_ofNat_Int, Int.reduceEq, Int.reduceNe, Int.reduceLT, Int.reduceLE]
  refine i_loop (fun k : Nat => [some (.pointer (some ⟨a, 0, none⟩)), none, some (.int .i64 (k : Nat)), none]) (fun k H => H = h ∧ k ≤ clos size late now) (fun k => clos size late now - k) 0 (by try simp only [Pe, and_true, true_and, and_self]; rfl) ⟨rfl, by omega⟩ ?_
  rintro k H ⟨rfl, hk⟩
  have hw1 : IntKind.i64.wrap ((k : Int) + 1) = ((k + 1 : Nat) : Int) := by rw [w64 (by omega) (by omega)]; omega
  have hb : (k + 1) * size ≤ 1001 * 1000 := Nat.mul_le_mul (by omega) hs2
  have hw2 : IntKind.i64.wrap (((k + 1 : Nat) : Int) * (size : Int)) = (((k + 1) * size : Nat) : Int) := by rw [← Int.natCast_mul, w64 (by omega) (by omega)]
  have hw3 : IntKind.i64.wrap ((((k + 1) * size : Nat) : Int) + late) = (((k + 1) * size + late : Nat) : Int) := by rw [w64 (by omega) (by omega)]; omega
  have hi := clos_iff (late := late) (now := now) (k := k) hs1
  try simp (disch := first | omega | (simp only [PL]; omega)) only [PS, P1, P2, P3, P4, P5, P6, P7, P8, PA, PB, PC, Nat.reduceAdd, Nat.reduceSub, Nat.reduceMul, Nat.reduceLeDiff, Nat.reduceEqDiff, Nat.succ_ne_self, reduceCtorEq, Int.reduceToNat, Int.cast_ofNat_Int, Int.reduceEq, Int.reduceNe, Int.reduceLT, Int.reduceLE, h0, h1, h2, hw1, hw2, hw3]
  refine i_cond (fun c => ?_) (fun c => ?_)
  · have := hi.1 (by omega)
    try simp (disch := first | omega | (simp only [PL]; omega)) only [PS, P1, P2, P3, P4, P5, P6, P7, P8, PA, PB, PC, Nat.reduceAdd, Nat.reduceSub, Nat.reduceMul, Nat.reduceLeDiff, Nat.reduceEqDiff, Nat.succ_ne_self, reduceCtorEq, Int.reduceToNat, Int.cast_ofNat_Int, Int.reduceEq, Int.reduceNe, Int.reduceLT, Int.reduceLE, hw1]
    exact k_loop (k + 1) (by omega) (by try simp only [Pe, and_true, true_and, and_self]) ⟨rfl, by omega⟩
  · have h9 : ¬ k < clos size late now := fun h => c (by have := hi.2 h; omega)
    have : k = clos size late now := by omega
    subst this
    try simp (disch := first | omega | (simp only [PL]; omega)) only [PS, P1, P2, P3, P4, P5, P6, P7, P8, PA, PB, PC, Nat.reduceAdd, Nat.reduceSub, Nat.reduceMul, Nat.reduceLeDiff, Nat.reduceEqDiff, Nat.succ_ne_self, reduceCtorEq, Int.reduceToNat, Int.cast_ofNat_Int, Int.reduceEq, Int.reduceNe, Int.reduceLT, Int.reduceLE]
    exact hK
end Go.Cw
namespace Go.Cw
open Go Go.Sort Go.Proofs

/-- which epoch a sight is of -/
def ep (size : Nat) (s : Si) : Nat := s.time.toNat / size
def enc5 (size : Nat) (s : Si) : List Value := [.int .i64 s.place, .int .i64 s.strength, .int .i64 s.time, .string (str s.tag), .int .i64 (ep size s : Nat)]
theorem enc5_len (size : Nat) (s : Si) : (enc5 size s).length = 5 := rfl
theorem Sl.row4 {size : Nat} {h : Heap} {v : Value} {A : List Si} (hs : Sl (enc5 size) h v A) {i : Nat} (hi : i < A.length) : h.row ((elt v (i * 5)).add 0) 4 = some #[.int .i64 (A.getD i default).place, .int .i64 (A.getD i default).strength, .int .i64 (A.getD i default).time, .string (str (A.getD i default).tag)] := by
  have R := hs.rules 5 (enc5_len size) default
  have h5 := R.2.2.1 i hi
  obtain ⟨a, cap, rfl, _, hr⟩ := hs
  rcases hr with e | ⟨g, rfl, hrow⟩
  · rw [e] at hi; cases hi
  have hl : (A.flatMap (enc5 size)).length = A.length * 5 := flat_len (enc5_len size) A
  have h5' := hrow.row (i := i * 5) (n := 5) (by omega)
  have h4 := hrow.row (i := i * 5) (n := 4) (by omega)
  have e1 : elt (.slice (some g) A.length cap) (i * 5) = g.add (i * 5) := rfl
  rw [e1] at h5 ⊢
  rw [h5'] at h5
  simp only [Option.some.injEq] at h5
  have h6 : ((A.flatMap (enc5 size)).drop (i * 5)).take 5 = enc5 size (A.getD i default) := by
    have := congrArg Array.toList h5; simpa using this
  rw [addr_zero, h4]
  have h7 : ((A.flatMap (enc5 size)).drop (i * 5)).take 4 = (enc5 size (A.getD i default)).take 4 := by
    rw [← h6, List.take_take]; rfl
  rw [h7]; rfl
def ofE (size : Nat) (A : List Si) (n : Nat) : List Si := ofL (A.filter fun s => decide (ep size s = n))
theorem ofE_take {size n i : Nat} {A : List Si} (hi : i < A.length) : (A.take (i + 1)).filter (fun s => decide (ep size s = n)) = (A.take i).filter (fun s => decide (ep size s = n)) ++ if ep size (A.getD i default) = n then [A.getD i default] else [] := by
  rw [take_succ_d default hi, List.filter_append]
  congr 1
  by_cases h : ep size (A.getD i default) = n
  · rw [if_pos h, List.filter_cons_of_pos (by simpa using h)]; rfl
  · rw [if_neg h, List.filter_cons_of_neg (by simpa using h)]; rfl
theorem ofL_len (l : List Si) : (ofL l).length = l.length := (ofL_ord l).2.length_eq
def S64 : Spec := fun args h K => ∃ a size av A, ∃ n : Nat, args = [.pointer (some ⟨a, 0, none⟩), .int .i64 n] ∧ h.cell ((⟨a, 0, none⟩ : Addr).add 3) = some av ∧ Sl (enc5 size) h av A ∧ A.length ≤ 1000 ∧
  ∀ v h', OwnS Si.enc 4 h h' v (ofE size A n) → K v h'
theorem F64_ok {N : Num} {Γ : Ctx} [GoodC Γ] (H78 : Sat S78 (Γ 78)) : Sat S64 (SF N Γ F64) := by
  rintro _ h K ⟨a, size, av, A, n, rfl, h3, hA, hlen, hK⟩
  refine i_fun rfl ?_
  simp only [F64, env0, List.map, List.length, List.replicate, List.cons_append, List.nil_append, Nat.reduceSub, Nat.reduceAdd]
  try simp (disch := first | omega | (simp only [PL]; omega)) only [PS, P1, P2, P3, P4, P5, P6, P7, P8, PA, PB, PC, Nat.reduceAdd, Nat.reduceSub, Nat.reduceMul, Nat.reduceLeDiff, Nat.reduceEqDiff, Nat.succ_ne_self, reduceCtorEq, Int.reduceToNat, Int.cast_ofNat_Int, Int.reduceEq, Int.reduceNe, Int.reduceLT, Int.reduceLE]
  refine i_loop (fun x : Nat × Value => [some (.pointer (some ⟨a, 0, none⟩)), some (.int .i64 n), none, some x.2, some (.int .i64 (x.1 : Nat)), none, none, none, none, none, none, none, none, none, none, none])
    (fun x H => x.1 ≤ A.length ∧ OwnS Si.enc 4 h H x.2 (ofL ((A.take x.1).filter fun s => decide (ep size s = n)))) (fun x => A.length - x.1) (0, .slice none 0 0) (by dsimp only; try simp only [Pe, and_true, true_and, and_self]; rfl) ⟨by dsimp only; omega, by simpa [ofL] using OwnS.nil (Heap.le.refl h)⟩ ?_
  rintro ⟨i, v⟩ H ⟨hi, ho⟩
  dsimp only at hi ho ⊢
  have A3 : H.cell ((⟨a, 0, none⟩ : Addr).add 3) = some av := cell_hmono ho.1 h3
  have R := (hA.le ho.1).rules 5 (enc5_len size) default
  have hw : IntKind.i64.wrap ((i : Int) + 1) = ((i + 1 : Nat) : Int) := by rw [w64 (by omega) (by omega)]; omega
  try simp (disch := first | omega | (simp only [PL]; omega)) only [PS, P1, P2, P3, P4, P5, P6, P7, P8, PA, PB, PC, Nat.reduceAdd, Nat.reduceSub, Nat.reduceMul, Nat.reduceLeDiff, Nat.reduceEqDiff, Nat.succ_ne_self, reduceCtorEq, Int.reduceToNat, Int.cast_ofNat_Int, Int.reduceEq, Int.reduceNe, Int.reduceLT, Int.reduceLE, A3, R]
  refine i_cond (fun c1 => ?_) (fun c1 => ?_)
  rotate_left
  · have : i = A.length := by omega
    subst this
    rw [List.take_length] at ho
    try simp (disch := first | omega | (simp only [PL]; omega)) only [PS, P1, P2, P3, P4, P5, P6, P7, P8, PA, PB, PC, Nat.reduceAdd, Nat.reduceSub, Nat.reduceMul, Nat.reduceLeDiff, Nat.reduceEqDiff, Nat.succ_ne_self, reduceCtorEq, Int.reduceToNat, Int.cast_ofNat_Int, Int.reduceEq, Int.reduceNe, Int.reduceLT, Int.reduceLE]
    exact hK v H ho
  have hi2 : i < A.length := by omega
  have hnx := ofE_take (size := size) (n := n) hi2
  generalize hs : A.getD i default = s at *
  try simp (disch := first | omega | (simp only [PL]; omega)) only [PS, P1, P2, P3, P4, P5, P6, P7, P8, PA, PB, PC, Nat.reduceAdd, Nat.reduceSub, Nat.reduceMul, Nat.reduceLeDiff, Nat.reduceEqDiff, Nat.succ_ne_self, reduceCtorEq, Int.reduceToNat, Int.cast_ofNat_Int, Int.reduceEq, Int.reduceNe, Int.reduceLT, Int.reduceLE, A3, R, hs, enc5]
  refine i_cond (fun c2 => ?_) (fun c2 => ?_)
  · rw [if_neg (by omega), List.append_nil] at hnx
    try simp (disch := first | omega | (simp only [PL]; omega)) only [PS, P1, P2, P3, P4, P5, P6, P7, P8, PA, PB, PC, Nat.reduceAdd, Nat.reduceSub, Nat.reduceMul, Nat.reduceLeDiff, Nat.reduceEqDiff, Nat.succ_ne_self, reduceCtorEq, Int.reduceToNat, Int.cast_ofNat_Int, Int.reduceEq, Int.reduceNe, Int.reduceLT, Int.reduceLE, hw]
    exact k_loop (i + 1, v) (by dsimp only; omega) (by dsimp only; try simp only [Pe, and_true, true_and, and_self]) ⟨by dsimp only; omega, by dsimp only; rw [hnx]; exact ho⟩
  rw [if_pos (by omega)] at hnx
  have hll : (ofL ((A.take i).filter fun s => decide (ep size s = n))).length ≤ i := by
    rw [ofL_len]; exact Nat.le_trans (List.length_filter_le _ _) (by rw [List.length_take]; omega)
  generalize hfl : (A.take i).filter (fun s => decide (ep size s = n)) = fl at *
  have hsn : ofL (fl ++ [s]) = insS (ofL fl) s := ofL_snoc fl s
  generalize ofL fl = l at *
  have R4 := (hA.le ho.1).row4 hi2
  rw [hs] at R4
  have hlen2 : l.length ≤ 1000 := by omega
  have O1 := ho.one
  try simp (disch := first | omega | (simp only [PL]; omega)) only [PS, P1, P2, P3, P4, P5, P6, P7, P8, PA, PB, PC, Nat.reduceAdd, Nat.reduceSub, Nat.reduceMul, Nat.reduceLeDiff, Nat.reduceEqDiff, Nat.succ_ne_self, reduceCtorEq, Int.reduceToNat, Int.cast_ofNat_Int, Int.reduceEq, Int.reduceNe, Int.reduceLT, Int.reduceLE, A3, R, R4, (ho.sl Si.enc_len).rules 4 Si.enc_len default]
  refine i_bslB Si.enc 4 Si.enc_len [s] rfl rfl (by simp [maxLen]) fun x1 b1 H2 hle2 hb1 hx1 hS1 => ?_
  have O2 := hS1.one
  try simp (disch := first | omega | (simp only [PL]; omega)) only [PS, P1, P2, P3, P4, P5, P6, P7, P8, PA, PB, PC, Nat.reduceAdd, Nat.reduceSub, Nat.reduceMul, Nat.reduceLeDiff, Nat.reduceEqDiff, Nat.succ_ne_self, reduceCtorEq, Int.reduceToNat, Int.cast_ofNat_Int, Int.reduceEq, Int.reduceNe, Int.reduceLT, Int.reduceLE, O2.1, O2.2]
  refine i_app Si.enc_len Si.enc_one (ho.le hle2) (SlB.sl Si.enc_len (hS1.le (fr_le _ _))) (by simp; omega) fun v2 H3 ho3 => ?_
  try simp (disch := first | omega | (simp only [PL]; omega)) only [PS, P1, P2, P3, P4, P5, P6, P7, P8, PA, PB, PC, Nat.reduceAdd, Nat.reduceSub, Nat.reduceMul, Nat.reduceLeDiff, Nat.reduceEqDiff, Nat.succ_ne_self, reduceCtorEq, Int.reduceToNat, Int.cast_ofNat_Int, Int.reduceEq, Int.reduceNe, Int.reduceLT, Int.reduceLE]
  have hsp := posS_le l s l.length
  refine i_meet_blk (fun env H4 => ∃ y, OwnS Si.enc 4 h H4 v2 (l.take (posS l s l.length) ++ y :: l.drop (posS l s l.length)) ∧ env = [some (.pointer (some ⟨a, 0, none⟩)), some (.int .i64 n), none, some v2, some (.int .i64 (i : Nat)), some (.agg #[.int .i64 s.place, .int .i64 s.strength, .int .i64 s.time, .string (str s.tag)]), some (.int .i64 (posS l s l.length : Nat)), none, none, none, none, none, none, none, none, none]) ?_ ?_
  rotate_left
  · refine i_loop (fun k : Nat => [some (.pointer (some ⟨a, 0, none⟩)), some (.int .i64 n), none, some v2, some (.int .i64 (i : Nat)), some (.agg #[.int .i64 s.place, .int .i64 s.strength, .int .i64 s.time, .string (str s.tag)]), some (.int .i64 (k : Nat)), none, none, none, none, none, none, none, none, none])
      (fun k H4 => k ≤ l.length ∧ posS l s k = posS l s l.length ∧ ∃ y, OwnS Si.enc 4 h H4 v2 (l.take k ++ y :: l.drop k)) (fun k => k) l.length (by try simp only [Pe, and_true, true_and, and_self]) ⟨Nat.le_refl _, rfl, s, by rw [List.take_length, List.drop_length]; exact ho3⟩ ?_
    rintro k H4 ⟨hk, hpk, y, ho4⟩
    have hLl : (l.take k ++ y :: l.drop k).length = l.length + 1 := by simp; omega
    have R5 := (ho4.sl Si.enc_len).rules 4 Si.enc_len default
    rw [hLl] at R5
    by_cases hk0 : k = 0
    · subst hk0
      try simp (disch := first | omega | (simp only [PL]; omega)) only [PS, P1, P2, P3, P4, P5, P6, P7, P8, PA, PB, PC, Nat.reduceAdd, Nat.reduceSub, Nat.reduceMul, Nat.reduceLeDiff, Nat.reduceEqDiff, Nat.succ_ne_self, reduceCtorEq, Int.reduceToNat, Int.cast_ofNat_Int, Int.reduceEq, Int.reduceNe, Int.reduceLT, Int.reduceLE]
      rw [← hpk]
      exact k_meet _ (by try simp only [Pe, and_true, true_and, and_self]; rfl) ⟨y, ho4, rfl⟩
    have hk0' : ((0 : Int) < (k : Int)) = True := by rw [eq_iff_iff]; simp; omega
    have hwk : IntKind.i64.wrap ((k : Int) - 1) = ((k - 1 : Nat) : Int) := by rw [w64 (by omega) (by omega)]; omega
    have hgk : (l.take k ++ y :: l.drop k).getD (k - 1) default = l.getD (k - 1) default := by
      rw [List.getD_eq_getElem?_getD, List.getElem?_append_left (by rw [List.length_take]; omega), List.getElem?_take_of_lt (by omega), ← List.getD_eq_getElem?_getD]
    obtain ⟨m, rfl⟩ : ∃ m, k = m + 1 := ⟨k - 1, by omega⟩
    have hm1 : m + 1 - 1 = m := by omega
    rw [hm1] at hwk hgk
    try simp (disch := first | omega | (simp only [PL]; omega)) only [PS, P1, P2, P3, P4, P5, P6, P7, P8, PA, PB, PC, Nat.reduceAdd, Nat.reduceSub, Nat.reduceMul, Nat.reduceLeDiff, Nat.reduceEqDiff, Nat.succ_ne_self, reduceCtorEq, Int.reduceToNat, Int.cast_ofNat_Int, Int.reduceEq, Int.reduceNe, Int.reduceLT, Int.reduceLE, hk0', hwk, R5, hgk, Si.enc]
    refine i_call H78 ⟨s, l.getD m default, rfl, ?_⟩
    cases hb : befS s (l.getD m default) with
    | false =>
      have e : posS l s (m + 1) = m + 1 := by simp only [posS]; rw [if_neg (by rw [hb]; simp)]
      try simp (disch := first | omega | (simp only [PL]; omega)) only [PS, P1, P2, P3, P4, P5, P6, P7, P8, PA, PB, PC, Nat.reduceAdd, Nat.reduceSub, Nat.reduceMul, Nat.reduceLeDiff, Nat.reduceEqDiff, Nat.succ_ne_self, reduceCtorEq, Int.reduceToNat, Int.cast_ofNat_Int, Int.reduceEq, Int.reduceNe, Int.reduceLT, Int.reduceLE]
      exact k_meet _ (by rw [← hpk, e]; try simp only [Pe, and_true, true_and, and_self]) ⟨y, by rw [← hpk, e]; exact ho4, rfl⟩
    | true =>
      have e : posS l s (m + 1) = posS l s m := by simp only [posS]; rw [if_pos hb]
      try simp (disch := first | omega | (simp only [PL]; omega)) only [PS, P1, P2, P3, P4, P5, P6, P7, P8, PA, PB, PC, Nat.reduceAdd, Nat.reduceSub, Nat.reduceMul, Nat.reduceLeDiff, Nat.reduceEqDiff, Nat.succ_ne_self, reduceCtorEq, Int.reduceToNat, Int.cast_ofNat_Int, Int.reduceEq, Int.reduceNe, Int.reduceLT, Int.reduceLE, hwk, R5, hgk, Si.enc]
      refine i_stS (enc := Si.enc) (sz := 4) Si.enc_len (l.getD m default) rfl ho4 (j := m + 1) (by rw [hLl]; omega) rfl fun H5 ho5 => ?_
      have hset : (l.take (m + 1) ++ y :: l.drop (m + 1)).set (m + 1) (l.getD m default) = l.take m ++ l.getD m default :: l.drop m := by
        have h1 : (l.take (m + 1)).length = m + 1 := by rw [List.length_take]; omega
        rw [List.set_append_right _ _ (by rw [h1]; omega), h1, Nat.sub_self, List.set_cons_zero, take_succ_d default (by omega), List.append_assoc]
        congr 1
        have h2 : l.drop m = l.getD m default :: l.drop (m + 1) := by
          rw [List.drop_eq_getElem_cons (by omega), List.getD_eq_getElem?_getD, List.getElem?_eq_getElem (by omega)]; rfl
        rw [h2]; rfl
      rw [hset] at ho5
      try simp (disch := first | omega | (simp only [PL]; omega)) only [PS, P1, P2, P3, P4, P5, P6, P7, P8, PA, PB, PC, Nat.reduceAdd, Nat.reduceSub, Nat.reduceMul, Nat.reduceLeDiff, Nat.reduceEqDiff, Nat.succ_ne_self, reduceCtorEq, Int.reduceToNat, Int.cast_ofNat_Int, Int.reduceEq, Int.reduceNe, Int.reduceLT, Int.reduceLE, hwk]
      exact k_loop m (by omega) (by try simp only [Pe, and_true, true_and, and_self]) ⟨by omega, by rw [← hpk, e], _, ho5⟩
  rintro env H4 ⟨y, ho4, rfl⟩
  have hLl : (l.take (posS l s l.length) ++ y :: l.drop (posS l s l.length)).length = l.length + 1 := by simp; omega
  have R5 := (ho4.sl Si.enc_len).rules 4 Si.enc_len default
  rw [hLl] at R5
  generalize hpg : posS l s l.length = p at *
  try simp (disch := first | omega | (simp only [PL]; omega)) only [PS, P1, P2, P3, P4, P5, P6, P7, P8, PA, PB, PC, Nat.reduceAdd, Nat.reduceSub, Nat.reduceMul, Nat.reduceLeDiff, Nat.reduceEqDiff, Nat.succ_ne_self, reduceCtorEq, Int.reduceToNat, Int.cast_ofNat_Int, Int.reduceEq, Int.reduceNe, Int.reduceLT, Int.reduceLE, R5]
  refine i_stS (enc := Si.enc) (sz := 4) Si.enc_len s rfl ho4 (j := p) (by rw [hLl]; omega) rfl fun H5 ho5 => ?_
  have hset : (l.take p ++ y :: l.drop p).set p s = insS l s := by
    have h1 : (l.take p).length = p := by rw [List.length_take]; omega
    unfold insS
    rw [hpg, List.set_append_right _ _ (by rw [h1]; omega), h1, Nat.sub_self, List.set_cons_zero]
  rw [hset] at ho5
  try simp (disch := first | omega | (simp only [PL]; omega)) only [PS, P1, P2, P3, P4, P5, P6, P7, P8, PA, PB, PC, Nat.reduceAdd, Nat.reduceSub, Nat.reduceMul, Nat.reduceLeDiff, Nat.reduceEqDiff, Nat.succ_ne_self, reduceCtorEq, Int.reduceToNat, Int.cast_ofNat_Int, Int.reduceEq, Int.reduceNe, Int.reduceLT, Int.reduceLE, hw]
  exact k_loop (i + 1, v2) (by dsimp only; omega) (by dsimp only; try simp only [Pe, and_true, true_and, and_self]) ⟨by dsimp only; omega, by dsimp only; rw [hnx, hsn]; exact ho5⟩
end Go.Cw
namespace Go.Cw
open Go Go.Sort Go.Proofs

/-- epochs that are handed out -/
def encEp (e : Nat × Value) : List Value := [.int .i64 (e.1 : Nat), e.2]
theorem encEp_len (e : Nat × Value) : (encEp e).length = 2 := rfl
/-- .. in one's own memory; Gf is not touched -/
structure OutP (Gf H : Heap) (v : Value) (L : List (Nat × List Si)) (es : List (Nat × Value)) (Z : Heap) : Prop where
  sl : SlB encEp 2 H v es
  own : ∀ b, blkOf v = some b → Gf b = none ∧ Z b = none
  le : Heap.le Z H
  fz : ∀ b, Z b ≠ none → Gf b = none
  len : es.length = L.length
  el : ∀ i, i < L.length → (es.getD i default).1 = (L.getD i default).1 ∧ Sl Si.enc Z (es.getD i default).2 (L.getD i default).2 ∧ Cw.one (es.getD i default).2 = true
def Outs (Gf H : Heap) (v : Value) (L : List (Nat × List Si)) : Prop := ∃ es Z, OutP Gf H v L es Z
theorem Outs.nil {Gf H : Heap} : Outs Gf H (.slice none 0 0) [] := ⟨[], fun _ => none, SlB.nil, by simp [blkOf], fun _ _ h => (by cases h), fun _ h => absurd rfl h, rfl, fun i hi => by simp at hi⟩
theorem Outs.mono {Gf H H' : Heap} {v : Value} {L : List (Nat × List Si)} (a : Outs Gf H v L) (hl : Heap.le H H') : Outs Gf H' v L := by
  obtain ⟨es, Z, h⟩ := a
  exact ⟨es, Z, { h with sl := h.sl.le hl, le := h.le.trans hl }⟩
theorem Outs.weak {Gf Gf' H : Heap} {v : Value} {L : List (Nat × List Si)} (a : Outs Gf H v L) (hl : Heap.le Gf' Gf) : Outs Gf' H v L := by
  obtain ⟨es, Z, h⟩ := a
  exact ⟨es, Z, { h with own := fun b hb => ⟨le_none hl b (h.own b hb).1, (h.own b hb).2⟩, fz := fun b hb => le_none hl b (h.fz b hb) }⟩
/-- one more -/
theorem i_push {N : Num} {Γ : Ctx} {Gf H Z2 : Heap} {v x : Value} {L : List (Nat × List Si)} {t n : Nat} {sv : Value} {l : List Si} (a : Outs Gf H v L) (hx : Sl encEp H x [(n, sv)]) (hG : Heap.le Gf H) (hZ : Heap.le Z2 H) (hZf : ∀ b, Z2 b ≠ none → Gf b = none) (hZv : ∀ b, blkOf v = some b → Z2 b = none) (hs : Sl Si.enc Z2 sv l) (h1 : Cw.one sv = true) (hlen : L.length ≤ 10000) {K : Value → Heap → Prop}
    (hK : ∀ v' H', Outs Gf H' v' (L ++ [(n, l)]) → kv v H H' → K v' H') : efW N Γ (.app t 2 32) [v, x] H K := by
  obtain ⟨es, Z, h⟩ := a
  have hel := h.len
  refine i_appB (enc := encEp) (sz := 2) (g := H) (l := es) (l' := [(n, sv)]) encEp_len (by intro x hx; simp only [List.mem_singleton] at hx; subst hx; simp only [encEp, List.all_cons, List.all_nil, h1, Bool.and_true]; rfl) h.sl (Heap.le.refl H) hx (by simp; omega) fun v' H' g' hS' St' e1 e2 e3 => ?_
  have hfr : ∀ b, blkOf v' = some b → Gf b = none ∧ join Z Z2 b = none := by
    intro b hb
    rcases e2 b hb with h5 | h5
    · exact ⟨(h.own b h5).1, join_none (h.own b h5).2 (hZv b h5)⟩
    · exact ⟨le_none hG b h5, join_none (le_none h.le b h5) (le_none hZ b h5)⟩
  have hZH : Heap.le (join Z Z2) H := join_le h.le hZ
  have hnv : ∀ b, blkOf v = some b → join Z Z2 b = none := fun b hb => join_none (h.own b hb).2 (hZv b hb)
  have hZ' : Heap.le (join Z Z2) H' := by
    intro b o hb
    refine e3 b o (hZH b o hb) fun e => ?_
    rw [hnv b e] at hb; cases hb
  refine hK v' H' ⟨es ++ [(n, sv)], join Z Z2, ⟨hS'.le St'.le, hfr, hZ', fun b hb => ?_, by simp [hel], fun i hi => ?_⟩⟩ fun b o hb hne => e3 b o hb hne
  · simp only [join] at hb
    cases hz : Z b with
    | some o => exact h.fz b (by rw [hz]; simp)
    | none => rw [hz] at hb; exact hZf b (by simpa using hb)
  · by_cases hi2 : i < L.length
    · have g1 : (es ++ [(n, sv)]).getD i default = es.getD i default := by rw [List.getD_eq_getElem?_getD, List.getElem?_append_left (by omega), ← List.getD_eq_getElem?_getD]
      have g2 : (L ++ [(n, l)]).getD i default = L.getD i default := by rw [List.getD_eq_getElem?_getD, List.getElem?_append_left hi2, ← List.getD_eq_getElem?_getD]
      rw [g1, g2]
      obtain ⟨q1, q2, q3⟩ := h.el i hi2
      exact ⟨q1, q2.le (join_l _ _), q3⟩
    · have hie : i = L.length := by simp at hi; omega
      subst hie
      have g1 : (es ++ [(n, sv)]).getD L.length default = (n, sv) := by rw [← hel]; simp [List.getD]
      have g2 : (L ++ [(n, l)]).getD L.length default = (n, l) := by simp [List.getD]
      rw [g1, g2]
      exact ⟨rfl, hs.le (join_r (g := Z) h.le hZ), h1⟩

/-- the model's desk -/
structure DMp (g : Heap) (a size late now : Nat) (A : List Si) (av : Value) : Prop where
  obj : objAt g ⟨a, 0, none⟩ [.int .i64 size, .int .i64 late, .int .i64 now, av]
  all : SlB (enc5 size) 5 g av A
  na : blkOf av ≠ some a
def DM (g : Heap) (a size late now : Nat) (A : List Si) : Prop := ∃ av, DMp g a size late now A av
/-- what of a heap is not of a part -/
def rest (g h : Heap) : Heap := fun b => if g b = none then h b else none
theorem rest_le (g h : Heap) : Heap.le (rest g h) h := by
  intro b o hb; unfold rest at hb; split at hb
  · exact hb
  · cases hb
theorem rest_none {g h : Heap} {b : Nat} (hb : h b = none ∨ g b ≠ none) : rest g h b = none := by
  unfold rest
  rcases hb with hb | hb
  · split
    · exact hb
    · rfl
  · rw [if_neg hb]
/-- the epochs that a tick closes -/
def closE (size late A0 A1 : Nat) (A : List Si) : List (Nat × List Si) := (List.range' (clos size late A0) (clos size late A1 - clos size late A0)).map fun k => (k, ofE size A k)
theorem range'_snoc (s n : Nat) : List.range' s (n + 1) = List.range' s n ++ [s + n] := by
  rw [List.range'_concat]; simp
def S35 : Spec := fun args h K => ∃ g a n, ∃ size late now : Nat, ∃ A, args = [.pointer (some ⟨a, 0, none⟩), .int .i64 n] ∧ DM g a size late now A ∧ Heap.le g h ∧ 0 < size ∧ size ≤ 1000 ∧ late ≤ 1000 ∧ now ≤ 1000 ∧ A.length ≤ 1000 ∧
  ((n < 0 ∨ 1000 - (now : Int) < n) → K (.tuple #[.slice none 0 0, .int .i64 1]) h) ∧
  (∀ m : Nat, n = m → now + m ≤ 1000 → ∀ g' h' v, Step g h g' h' → DM g' a size late (now + m) A → (∀ b, blkOf v = some b → g' b = none) → Outs (join (rest g h) g') h' v (closE size late now (now + m) A) → K (.tuple #[v, .int .i64 0]) h')
theorem F35_ok {N : Num} {Γ : Ctx} [GoodC Γ] (H41 : Sat S41 (Γ 41)) (H64 : Sat S64 (Γ 64)) : Sat S35 (SF N Γ F35) := by
  rintro _ h K ⟨g, a, n, size, late, now, A, rfl, ⟨av, hD⟩, hg, hs1, hs2, hl, hn, hA, hK1, hK2⟩
  refine i_fun rfl ?_
  simp only [F35, env0, List.map, List.length, List.replicate, List.cons_append, List.nil_append, Nat.reduceSub, Nat.reduceAdd]
  have ho := hD.obj.le hg
  have hcell := fun i (hi : i < 4) => ho.rules.1 i (by simpa using hi)
  have c0 : h.cell ((⟨a, 0, none⟩ : Addr).add 0) = some (.int .i64 size) := hcell 0 (by omega)
  have c1 : h.cell ((⟨a, 0, none⟩ : Addr).add 1) = some (.int .i64 late) := hcell 1 (by omega)
  have c2 : h.cell ((⟨a, 0, none⟩ : Addr).add 2) = some (.int .i64 now) := hcell 2 (by omega)
  have hw0 : IntKind.i64.wrap (1000 - (now : Int)) = 1000 - (now : Int) := w64 (by omega) (by omega)
  try simp (disch := first | omega | (simp only [PL]; omega)) only [PS, P1, P2, P3, P4, P5, P6, P7, P8, PA, PB, PC, Nat.reduceAdd, Nat.reduceSub, Nat.reduceMul, Nat.reduceLeDiff, Nat.reduceEqDiff, Nat.succ_ne_self, reduceCtorEq, Int.reduceToNat, Int.cast_ofNat_Int, Int.reduceEq, Int.reduceNe, Int.reduceLT, Int.reduceLE, c2, hw0]
  refine i_cond (fun cc => ?_) (fun cc => ?_)
  · try simp (disch := first | omega | (simp only [PL]; omega)) only [PS, P1, P2, P3, P4, P5, P6, P7, P8, PA, PB, PC, Nat.reduceAdd, Nat.reduceSub, Nat.reduceMul, Nat.reduceLeDiff, Nat.reduceEqDiff, Nat.succ_ne_self, reduceCtorEq, Int.reduceToNat, Int.cast_ofNat_Int, Int.reduceEq, Int.reduceNe, Int.reduceLT, Int.reduceLE]
    exact hK1 (by omega)
  obtain ⟨m, rfl⟩ : ∃ m : Nat, n = m := ⟨n.toNat, by omega⟩
  have hm : now + m ≤ 1000 := by omega
  have hK := hK2 m rfl hm
  clear hK1 hK2
  have hw1 : IntKind.i64.wrap ((now : Int) + m) = ((now + m : Nat) : Int) := by rw [w64 (by omega) (by omega)]; omega
  try simp (disch := first | omega | (simp only [PL]; omega)) only [PS, P1, P2, P3, P4, P5, P6, P7, P8, PA, PB, PC, Nat.reduceAdd, Nat.reduceSub, Nat.reduceMul, Nat.reduceLeDiff, Nat.reduceEqDiff, Nat.succ_ne_self, reduceCtorEq, Int.reduceToNat, Int.cast_ofNat_Int, Int.reduceEq, Int.reduceNe, Int.reduceLT, Int.reduceLE]
  refine i_call H41 ⟨a, size, late, now, rfl, c0, c1, c2, hs1, hs2, hl, hn, ?_⟩
  try simp (disch := first | omega | (simp only [PL]; omega)) only [PS, P1, P2, P3, P4, P5, P6, P7, P8, PA, PB, PC, Nat.reduceAdd, Nat.reduceSub, Nat.reduceMul, Nat.reduceLeDiff, Nat.reduceEqDiff, Nat.succ_ne_self, reduceCtorEq, Int.reduceToNat, Int.cast_ofNat_Int, Int.reduceEq, Int.reduceNe, Int.reduceLT, Int.reduceLE, c2, hw1]
  refine i_st ho 2 1 rfl rfl (by omega) (by simp) fun o hob _ => ?_
  have hga : g a ≠ none := by obtain ⟨_, c, t, q, _⟩ := hD.obj; rw [q]; simp
  have ho1 : objAt (h.set a o) ⟨a, 0, none⟩ [.int .i64 size, .int .i64 late, .int .i64 (now + m : Nat), av] := hob h rfl
  have ho1g : objAt (g.set a o) ⟨a, 0, none⟩ [.int .i64 size, .int .i64 late, .int .i64 (now + m : Nat), av] := by
    refine objAt_kept ho1 fun o' ho' => ?_
    simp only [Heap.set, if_true] at ho' ⊢; exact ho'
  have hst := Step.set hg hga o
  have hD1 : DMp (g.set a o) a size late (now + m) A av := ⟨ho1g, hD.all.same fun b hb => Heap.set_ne (by rintro rfl; exact hD.na hb), hD.na⟩
  have hrest : Heap.le (rest g h) (h.set a o) := by
    intro b o' hb
    unfold rest at hb
    split at hb
    · rename_i hgb; exact hst.frame b o' hb hgb
    · cases hb
  have hGf : Heap.le (join (rest g h) (g.set a o)) (h.set a o) := join_le hrest hst.le
  clear hob ho c0 c1 c2 hcell
  generalize h.set a o = h1 at *
  generalize g.set a o = g1 at *
  have hc01 : clos size late now ≤ clos size late (now + m) := Nat.div_le_div_right (by omega)
  have hcl := clos_le (size := size) (late := late) (now := now + m)
  obtain ⟨c0, hc0⟩ : ∃ c, c = clos size late now := ⟨_, rfl⟩
  obtain ⟨c1, hc1⟩ : ∃ c, c = clos size late (now + m) := ⟨_, rfl⟩
  unfold closE at hK
  rw [← hc0, ← hc1] at hc01 hK
  rw [← hc1] at hcl
  rw [← hc0]
  try simp (disch := first | omega | (simp only [PL]; omega)) only [PS, P1, P2, P3, P4, P5, P6, P7, P8, PA, PB, PC, Nat.reduceAdd, Nat.reduceSub, Nat.reduceMul, Nat.reduceLeDiff, Nat.reduceEqDiff, Nat.succ_ne_self, reduceCtorEq, Int.reduceToNat, Int.cast_ofNat_Int, Int.reduceEq, Int.reduceNe, Int.reduceLT, Int.reduceLE]
  refine i_loop (fun x : Nat × Value => [some (.pointer (some ⟨a, 0, none⟩)), some (.int .i64 m), none, none, none, some x.2, some (.int .i64 (x.1 : Nat)), none, none, none, none, none, none, none, none, none, none])
    (fun x H => c0 ≤ x.1 ∧ x.1 ≤ c1 ∧ Heap.le h1 H ∧ Outs h1 H x.2 ((List.range' c0 (x.1 - c0)).map fun k => (k, ofE size A k))) (fun x => c1 - x.1) (c0, .slice none 0 0) (by dsimp only; try simp only [Pe, and_true, true_and, and_self]) ⟨Nat.le_refl _, hc01, Heap.le.refl h1, by rw [Nat.sub_self]; exact Outs.nil⟩ ?_
  rintro ⟨e, v⟩ H ⟨he0, he1, hle, hO⟩
  dsimp only at he0 he1 hO ⊢
  have hcell := fun i (hi : i < 4) => (ho1.le hle).rules.1 i (by simpa using hi)
  have d0 : H.cell ((⟨a, 0, none⟩ : Addr).add 0) = some (.int .i64 size) := hcell 0 (by omega)
  have d1 : H.cell ((⟨a, 0, none⟩ : Addr).add 1) = some (.int .i64 late) := hcell 1 (by omega)
  have d2 : H.cell ((⟨a, 0, none⟩ : Addr).add 2) = some (.int .i64 (now + m : Nat)) := hcell 2 (by omega)
  have d3 : H.cell ((⟨a, 0, none⟩ : Addr).add 3) = some av := hcell 3 (by omega)
  have hwe : IntKind.i64.wrap ((e : Int) + 1) = ((e + 1 : Nat) : Int) := by rw [w64 (by omega) (by omega)]; omega
  try simp (disch := first | omega | (simp only [PL]; omega)) only [PS, P1, P2, P3, P4, P5, P6, P7, P8, PA, PB, PC, Nat.reduceAdd, Nat.reduceSub, Nat.reduceMul, Nat.reduceLeDiff, Nat.reduceEqDiff, Nat.succ_ne_self, reduceCtorEq, Int.reduceToNat, Int.cast_ofNat_Int, Int.reduceEq, Int.reduceNe, Int.reduceLT, Int.reduceLE]
  refine i_call H41 ⟨a, size, late, now + m, rfl, d0, d1, d2, hs1, hs2, hl, hm, ?_⟩
  rw [← hc1]
  try simp (disch := first | omega | (simp only [PL]; omega)) only [PS, P1, P2, P3, P4, P5, P6, P7, P8, PA, PB, PC, Nat.reduceAdd, Nat.reduceSub, Nat.reduceMul, Nat.reduceLeDiff, Nat.reduceEqDiff, Nat.succ_ne_self, reduceCtorEq, Int.reduceToNat, Int.cast_ofNat_Int, Int.reduceEq, Int.reduceNe, Int.reduceLT, Int.reduceLE]
  refine i_cond (fun c => ?_) (fun c => ?_)
  rotate_left
  · have : e = c1 := by omega
    subst this
    try simp (disch := first | omega | (simp only [PL]; omega)) only [PS, P1, P2, P3, P4, P5, P6, P7, P8, PA, PB, PC, Nat.reduceAdd, Nat.reduceSub, Nat.reduceMul, Nat.reduceLeDiff, Nat.reduceEqDiff, Nat.succ_ne_self, reduceCtorEq, Int.reduceToNat, Int.cast_ofNat_Int, Int.reduceEq, Int.reduceNe, Int.reduceLT, Int.reduceLE]
    refine hK g1 H v (hst.trans (Step.more hst.le hle)) ⟨av, hD1⟩ (fun b hb => ?_) (hO.weak hGf)
    obtain ⟨es, Z, hP⟩ := hO
    exact le_none hst.le b (hP.own b hb).1
  have he2 : e < c1 := by omega
  try simp (disch := first | omega | (simp only [PL]; omega)) only [PS, P1, P2, P3, P4, P5, P6, P7, P8, PA, PB, PC, Nat.reduceAdd, Nat.reduceSub, Nat.reduceMul, Nat.reduceLeDiff, Nat.reduceEqDiff, Nat.succ_ne_self, reduceCtorEq, Int.reduceToNat, Int.cast_ofNat_Int, Int.reduceEq, Int.reduceNe, Int.reduceLT, Int.reduceLE]
  refine i_call H64 ⟨a, size, av, A, e, rfl, d3, SlB.sl (enc5_len size) (hD1.all.le (hst.le.trans hle)), hA, fun sv H2 ho2 => ?_⟩
  have O1 := ho2.one
  try simp (disch := first | omega | (simp only [PL]; omega)) only [PS, P1, P2, P3, P4, P5, P6, P7, P8, PA, PB, PC, Nat.reduceAdd, Nat.reduceSub, Nat.reduceMul, Nat.reduceLeDiff, Nat.reduceEqDiff, Nat.succ_ne_self, reduceCtorEq, Int.reduceToNat, Int.cast_ofNat_Int, Int.reduceEq, Int.reduceNe, Int.reduceLT, Int.reduceLE, O1.1, O1.2]
  refine i_bslB encEp 2 encEp_len [(e, sv)] rfl rfl (by simp [maxLen]) fun x1 b1 H3 hle3 hb1 hx1 hS1 => ?_
  have O2 := hS1.one
  have hGH : Heap.le h1 H := hle
  have hle23 := ho2.1.trans hle3
  have hvm : ∀ b, blkOf v = some b → H b ≠ none := fun b hb => by obtain ⟨es, Z, hP⟩ := hO; exact hP.sl.mem hb
  try simp (disch := first | omega | (simp only [PL]; omega)) only [PS, P1, P2, P3, P4, P5, P6, P7, P8, PA, PB, PC, Nat.reduceAdd, Nat.reduceSub, Nat.reduceMul, Nat.reduceLeDiff, Nat.reduceEqDiff, Nat.succ_ne_self, reduceCtorEq, Int.reduceToNat, Int.cast_ofNat_Int, Int.reduceEq, Int.reduceNe, Int.reduceLT, Int.reduceLE, O2.1, O2.2]
  refine i_push (Gf := h1) (Z2 := fr H H2) (n := e) (sv := sv) (l := ofE size A e) (hO.mono hle23) (SlB.sl encEp_len (hS1.le (fr_le _ _))) (hGH.trans hle23) ((fr_le _ _).trans hle3) (fun b hb => ?_) (fun b hb => ?_) (ho2.slf2 Si.enc_len) O1.1 (by simp; omega) fun v' H4 hO4 hk4 => ?_
  · refine le_none hGH b ?_
    cases hh : H b with
    | none => rfl
    | some o' => exact absurd (fr_none hh) hb
  · cases hh : H b with
    | none => exact absurd hh (hvm b hb)
    | some o' => exact fr_none hh
  · have hle4 : Heap.le h1 H4 := by
      intro b o' hb
      refine hk4 b o' (hle23 b o' (hle b o' hb)) fun e' => ?_
      obtain ⟨es, Z, hP⟩ := hO
      have := (hP.own b e').1
      rw [hb] at this; cases this
    try simp (disch := first | omega | (simp only [PL]; omega)) only [PS, P1, P2, P3, P4, P5, P6, P7, P8, PA, PB, PC, Nat.reduceAdd, Nat.reduceSub, Nat.reduceMul, Nat.reduceLeDiff, Nat.reduceEqDiff, Nat.succ_ne_self, reduceCtorEq, Int.reduceToNat, Int.cast_ofNat_Int, Int.reduceEq, Int.reduceNe, Int.reduceLT, Int.reduceLE, hwe]
    refine k_loop (e + 1, v') (by dsimp only; omega) (by dsimp only; try simp only [Pe, and_true, true_and, and_self]) ⟨by dsimp only; omega, by dsimp only; omega, hle4, ?_⟩
    dsimp only
    rw [show e + 1 - c0 = (e - c0) + 1 by omega, range'_snoc, List.map_append]
    rw [show c0 + (e - c0) = e by omega]
    exact hO4
end Go.Cw
namespace Go.Cw
open Go Go.Sort Go.Proofs

def adBad (now : Nat) (s : Si) : Prop := s.place < 0 ∨ 7 < s.place ∨ s.strength < 0 ∨ 255 < s.strength ∨ s.time < 0 ∨ (now : Int) < s.time ∨ s.tag.length ≠ 8
instance (now : Nat) (s : Si) : Decidable (adBad now s) := by unfold adBad; infer_instance
/-- the fault of a sight -/
def adF (size late now : Nat) (s : Si) : Nat := if adBad now s then 1 else if ep size s < clos size late now then 6 else 0
def S38 : Spec := fun args h K => ∃ g a, ∃ size late now : Nat, ∃ A s, args = [.pointer (some ⟨a, 0, none⟩), aggS s] ∧ DM g a size late now A ∧ Heap.le g h ∧ 0 < size ∧ size ≤ 1000 ∧ late ≤ 1000 ∧ now ≤ 1000 ∧ A.length < 1000 ∧
  (adF size late now s ≠ 0 → K (.int .i64 (adF size late now s : Nat)) h) ∧ (adF size late now s = 0 → ∀ g' h', Step g h g' h' → DM g' a size late now (A ++ [s]) → K (.int .i64 0) h')
theorem F38_ok {N : Num} {Γ : Ctx} [GoodC Γ] (H41 : Sat S41 (Γ 41)) : Sat S38 (SF N Γ F38) := by
  rintro _ h K ⟨g, a, size, late, now, A, s, rfl, ⟨av, hD⟩, hg, hs1, hs2, hl, hn, hA, hK1, hK2⟩
  refine i_fun rfl ?_
  simp only [F38, env0, List.map, List.length, List.replicate, List.cons_append, List.nil_append, Nat.reduceSub, Nat.reduceAdd, aggS]
  have ho := hD.obj.le hg
  have hcell := fun i (hi : i < 4) => ho.rules.1 i (by simpa using hi)
  have c0 : h.cell ((⟨a, 0, none⟩ : Addr).add 0) = some (.int .i64 size) := hcell 0 (by omega)
  have c1 : h.cell ((⟨a, 0, none⟩ : Addr).add 1) = some (.int .i64 late) := hcell 1 (by omega)
  have c2 : h.cell ((⟨a, 0, none⟩ : Addr).add 2) = some (.int .i64 now) := hcell 2 (by omega)
  have c3 : h.cell ((⟨a, 0, none⟩ : Addr).add 3) = some av := hcell 3 (by omega)
  unfold adF at hK1 hK2
  try simp (disch := first | omega | (simp only [PL]; omega)) only [PS, P1, P2, P3, P4, P5, P6, P7, P8, PA, PB, PC, Nat.reduceAdd, Nat.reduceSub, Nat.reduceMul, Nat.reduceLeDiff, Nat.reduceEqDiff, Nat.succ_ne_self, reduceCtorEq, Int.reduceToNat, Int.cast_ofNat_Int, Int.reduceEq, Int.reduceNe, Int.reduceLT, Int.reduceLE, c2]
  refine i_cond (fun cc => ?_) (fun cc => ?_)
  · have hb : adBad now s := by unfold adBad; omega
    rw [if_pos hb] at hK1
    try simp (disch := first | omega | (simp only [PL]; omega)) only [PS, P1, P2, P3, P4, P5, P6, P7, P8, PA, PB, PC, Nat.reduceAdd, Nat.reduceSub, Nat.reduceMul, Nat.reduceLeDiff, Nat.reduceEqDiff, Nat.succ_ne_self, reduceCtorEq, Int.reduceToNat, Int.cast_ofNat_Int, Int.reduceEq, Int.reduceNe, Int.reduceLT, Int.reduceLE]
    exact hK1 (by omega)
  have hb : ¬ adBad now s := by unfold adBad; omega
  rw [if_neg hb] at hK1 hK2
  unfold adBad at hb
  obtain ⟨tn, htn⟩ : ∃ tn : Nat, s.time = tn := ⟨s.time.toNat, by omega⟩
  have hep : ep size s = tn / size := by unfold ep; rw [htn, Int.toNat_natCast]
  have hq : Int.tdiv (tn : Int) (size : Int) = ((tn / size : Nat) : Int) := rfl
  have htnl : tn / size ≤ tn := Nat.div_le_self _ _
  have hwq : IntKind.i64.wrap ((tn / size : Nat) : Int) = ((tn / size : Nat) : Int) := w64 (by omega) (by omega)
  have hsz0 : ((size : Int) = 0) = False := by rw [eq_iff_iff]; simp; omega
  rw [hep] at hK1 hK2
  rw [htn]
  try simp (disch := first | omega | (simp only [PL]; omega)) only [PS, P1, P2, P3, P4, P5, P6, P7, P8, PA, PB, PC, Nat.reduceAdd, Nat.reduceSub, Nat.reduceMul, Nat.reduceLeDiff, Nat.reduceEqDiff, Nat.succ_ne_self, reduceCtorEq, Int.reduceToNat, Int.cast_ofNat_Int, Int.reduceEq, Int.reduceNe, Int.reduceLT, Int.reduceLE, c0, hq, hwq, hsz0]
  refine i_call H41 ⟨a, size, late, now, rfl, c0, c1, c2, hs1, hs2, hl, hn, ?_⟩
  refine i_le (le_one (Heap.le.refl _)) ?_
  try simp (disch := first | omega | (simp only [PL]; omega)) only [PS, P1, P2, P3, P4, P5, P6, P7, P8, PA, PB, PC, Nat.reduceAdd, Nat.reduceSub, Nat.reduceMul, Nat.reduceLeDiff, Nat.reduceEqDiff, Nat.succ_ne_self, reduceCtorEq, Int.reduceToNat, Int.cast_ofNat_Int, Int.reduceEq, Int.reduceNe, Int.reduceLT, Int.reduceLE]
  refine i_cond (fun cc2 => ?_) (fun cc2 => ?_)
  · rw [if_pos (by omega)] at hK1
    try simp (disch := first | omega | (simp only [PL]; omega)) only [PS, P1, P2, P3, P4, P5, P6, P7, P8, PA, PB, PC, Nat.reduceAdd, Nat.reduceSub, Nat.reduceMul, Nat.reduceLeDiff, Nat.reduceEqDiff, Nat.succ_ne_self, reduceCtorEq, Int.reduceToNat, Int.cast_ofNat_Int, Int.reduceEq, Int.reduceNe, Int.reduceLT, Int.reduceLE]
    exact hK1 (by omega)
  rw [if_neg (by omega)] at hK2
  try simp (disch := first | omega | (simp only [PL]; omega)) only [PS, P1, P2, P3, P4, P5, P6, P7, P8, PA, PB, PC, Nat.reduceAdd, Nat.reduceSub, Nat.reduceMul, Nat.reduceLeDiff, Nat.reduceEqDiff, Nat.succ_ne_self, reduceCtorEq, Int.reduceToNat, Int.cast_ofNat_Int, Int.reduceEq, Int.reduceNe, Int.reduceLT, Int.reduceLE, c3, c0, hq, hwq, hsz0]
  refine i_bslB (enc5 size) 5 (enc5_len size) [s] (by simp [enc5, htn, hep]) rfl (by simp [maxLen]) fun x1 b1 h1 hle1 hb1 hx1 hS1 => ?_
  have O2 := hS1.one
  have OA := hD.all.one
  refine i_le (le_one hle1) ?_
  try simp (disch := first | omega | (simp only [PL]; omega)) only [PS, P1, P2, P3, P4, P5, P6, P7, P8, PA, PB, PC, Nat.reduceAdd, Nat.reduceSub, Nat.reduceMul, Nat.reduceLeDiff, Nat.reduceEqDiff, Nat.succ_ne_self, reduceCtorEq, Int.reduceToNat, Int.cast_ofNat_Int, Int.reduceEq, Int.reduceNe, Int.reduceLT, Int.reduceLE, O2.1, O2.2, OA.1, OA.2]
  have hag : g a ≠ none := by obtain ⟨_, c, t, q, _⟩ := hD.obj; rw [q]; simp
  refine i_appB (enc := enc5 size) (sz := 5) (g := g) (l := A) (l' := [s]) (enc5_len size) (by simp [enc5, one]) hD.all (hg.trans hle1) (SlB.sl (enc5_len size) (hS1.le (fr_le _ _))) (by simp; omega) fun v2 h2 g2 hS2 St2 e1 e2 e3 => ?_
  have hva : blkOf v2 ≠ some a := by
    intro e
    rcases e2 a e with h5 | h5
    · exact hD.na h5
    · have := le_none (hg.trans hle1) a h5; exact hag this
  have ho2g : objAt g2 ⟨a, 0, none⟩ [.int .i64 size, .int .i64 late, .int .i64 now, av] := objAt_kept hD.obj fun o ho => by rw [e1 a hD.na hva]; exact ho
  have O3 := hS2.one
  try simp (disch := first | omega | (simp only [PL]; omega)) only [PS, P1, P2, P3, P4, P5, P6, P7, P8, PA, PB, PC, Nat.reduceAdd, Nat.reduceSub, Nat.reduceMul, Nat.reduceLeDiff, Nat.reduceEqDiff, Nat.succ_ne_self, reduceCtorEq, Int.reduceToNat, Int.cast_ofNat_Int, Int.reduceEq, Int.reduceNe, Int.reduceLT, Int.reduceLE, O3.1, O3.2]
  refine i_st (ho2g.le St2.le) 3 1 (by rw [O3.2]; rfl) (by rw [O3.2]; simp [O3.1]) (by omega) (by simp) fun o hob _ => ?_
  have hob2 : objAt (h2.set a o) ⟨a, 0, none⟩ [.int .i64 size, .int .i64 late, .int .i64 now, v2] := by have := hob h2 rfl; simpa [O3.2] using this
  have hob3 : objAt (g2.set a o) ⟨a, 0, none⟩ [.int .i64 size, .int .i64 late, .int .i64 now, v2] := by
    refine objAt_kept hob2 fun o' ho' => ?_
    simp only [Heap.set, if_true] at ho' ⊢; exact ho'
  have hag2 : g2 a ≠ none := by rw [e1 a hD.na hva]; exact hag
  have hst := ((Step.more hg hle1).trans St2).trans (Step.set St2.le hag2 o)
  try simp (disch := first | omega | (simp only [PL]; omega)) only [PS, P1, P2, P3, P4, P5, P6, P7, P8, PA, PB, PC, Nat.reduceAdd, Nat.reduceSub, Nat.reduceMul, Nat.reduceLeDiff, Nat.reduceEqDiff, Nat.succ_ne_self, reduceCtorEq, Int.reduceToNat, Int.cast_ofNat_Int, Int.reduceEq, Int.reduceNe, Int.reduceLT, Int.reduceLE]
  exact hK2 rfl _ _ hst ⟨v2, hob3, hS2.same fun b hb => Heap.set_ne (by rintro rfl; exact hva hb), hva⟩
end Go.Cw
namespace Go.Cw
open Go Go.Sort Go.Proofs

/-- what waits of an epoch -/
def opn (size late now : Nat) (A : List Si) (k : Nat) : List Si := if clos size late now ≤ k then A.filter (fun s => decide (ep size s = k)) else []
def vof (kv : List (Int × Value)) (n : Int) : Value := (look kv n).getD (.slice none 0 0)
/-- the program's desk -/
structure PDp (g : Heap) (p size late now : Nat) (A : List Si) (mw : Nat) (kv : List (Int × Value)) (bs : List Nat) (ck : Nat) : Prop where
  obj : objAt g ⟨p, 0, none⟩ [.int .i64 size, .int .i64 late, .int .i64 now, .int .i64 (clos size late now : Nat), .map (some mw)]
  wm : MapB encKI id g mw kv bs ck
  pm : p ≠ mw
  no : ∀ k : Nat, look kv (k : Int) = none → opn size late now A k = []
  so : ∀ (n : Int) v, look kv n = some v → ∃ (k : Nat) (x : Nat), n = k ∧ blkOf v = some x ∧ x ≠ p ∧ x ≠ mw ∧ SlB Si.enc 4 g v (opn size late now A k)
  inj : ∀ n n' v v', look kv n = some v → look kv n' = some v' → blkOf v = blkOf v' → n = n'
def PD (g : Heap) (p size late now : Nat) (A : List Si) : Prop := ∃ mw kv bs ck, PDp g p size late now A mw kv bs ck
theorem MapB.lkpE {h : Heap} {m : Nat} {kv : List (Int × Value)} {bs : List Nat} {ck : Nat} (hm : MapB encKI id h m kv bs ck) (n : Int) : o2V h (.lkp .int (.slice none 0 0)) (.v (.map (some m))) (.v (.int .i64 n)) = some (.v (vof kv n)) := by
  have := (hm.rules .int).1 (.slice none 0 0) n
  rw [show (Value.int .i64 n) = encKI n from rfl, this]
  unfold vof
  cases look kv n <;> rfl
def epBad (size late : Int) : Prop := size < 1 ∨ 50 < size ∨ late < 0 ∨ 50 < late
def S33 (N : Num) : Spec := fun args h K => ∃ size late, args = [.int .i64 size, .int .i64 late] ∧ (epBad size late → K (.tuple #[.pointer none, errV N 1]) h) ∧
  (¬ epBad size late → ∀ p h', h p = none → Heap.le h h' → PD (fr h h') p size.toNat late.toNat 0 [] → K (.tuple #[.pointer (some ⟨p, 0, none⟩), .nilIface]) h')
theorem F33_ok {N : Num} {Γ : Ctx} [GoodC Γ] : Sat (S33 N) (SF N Γ F33) := by
  rintro _ h K ⟨size, late, rfl, hK1, hK2⟩
  unfold epBad at hK1 hK2
  refine i_fun rfl ?_
  simp only [F33, env0, List.map, List.length, List.replicate, List.cons_append, List.nil_append, Nat.reduceSub, Nat.reduceAdd]
  try simp (disch := first | omega | (simp only [PL]; omega)) only [PS, P1, P2, P3, P4, P5, P6, P7, P8, PA, PB, PC, Nat.reduceAdd, Nat.reduceSub, Nat.reduceMul, Nat.reduceLeDiff, Nat.reduceEqDiff, Nat.succ_ne_self, reduceCtorEq, Int.reduceToNat, Int.cast_ofNat_Int, Int.reduceEq, Int.reduceNe, Int.reduceLT, Int.reduceLE]
  refine i_cond (fun c => ?_) (fun c => ?_)
  · try simp (disch := first | omega | (simp only [PL]; omega)) only [PS, P1, P2, P3, P4, P5, P6, P7, P8, PA, PB, PC, Nat.reduceAdd, Nat.reduceSub, Nat.reduceMul, Nat.reduceLeDiff, Nat.reduceEqDiff, Nat.succ_ne_self, reduceCtorEq, Int.reduceToNat, Int.cast_ofNat_Int, Int.reduceEq, Int.reduceNe, Int.reduceLT, Int.reduceLE]
    exact hK1 (by omega)
  try simp (disch := first | omega | (simp only [PL]; omega)) only [PS, P1, P2, P3, P4, P5, P6, P7, P8, PA, PB, PC, Nat.reduceAdd, Nat.reduceSub, Nat.reduceMul, Nat.reduceLeDiff, Nat.reduceEqDiff, Nat.succ_ne_self, reduceCtorEq, Int.reduceToNat, Int.cast_ofNat_Int, Int.reduceEq, Int.reduceNe, Int.reduceLT, Int.reduceLE]
  refine i_mnew (ek := encKI) (ev := (id : Value → Value)) fun m h1 hm0 hle1 hmE => ?_
  try simp (disch := first | omega | (simp only [PL]; omega)) only [PS, P1, P2, P3, P4, P5, P6, P7, P8, PA, PB, PC, Nat.reduceAdd, Nat.reduceSub, Nat.reduceMul, Nat.reduceLeDiff, Nat.reduceEqDiff, Nat.succ_ne_self, reduceCtorEq, Int.reduceToNat, Int.cast_ofNat_Int, Int.reduceEq, Int.reduceNe, Int.reduceLT, Int.reduceLE]
  refine i_newO fun p h2 hle2 hp ho => ?_
  try simp (disch := first | omega | (simp only [PL]; omega)) only [PS, P1, P2, P3, P4, P5, P6, P7, P8, PA, PB, PC, Nat.reduceAdd, Nat.reduceSub, Nat.reduceMul, Nat.reduceLeDiff, Nat.reduceEqDiff, Nat.succ_ne_self, reduceCtorEq, Int.reduceToNat, Int.cast_ofNat_Int, Int.reduceEq, Int.reduceNe, Int.reduceLT, Int.reduceLE]
  have hpm : p ≠ m := by
    rintro rfl
    obtain ⟨es, q, _⟩ := hmE.le (fr_le _ _)
    rw [q] at hp; cases hp
  refine hK2 (by omega) p h2 (le_none hle1 p hp) (hle1.trans hle2) ⟨m, [], [], 0, ?_, hmE.le (fr_mono hle2), hpm, fun k _ => by simp [opn], fun n v h => by simp [look_nil] at h, fun n n' v v' h => by simp [look_nil] at h⟩
  have h3 := ho.le (fr_fr hle1)
  have e1 : ((size.toNat : Nat) : Int) = size := by omega
  have e2 : ((late.toNat : Nat) : Int) = late := by omega
  have e3 : clos size.toNat late.toNat 0 = 0 := by simp [clos]
  rw [e1, e2, e3]
  exact h3
theorem PDp.read {g h : Heap} {p size late now : Nat} {A : List Si} {mw : Nat} {kv : List (Int × Value)} {bs : List Nat} {ck : Nat} (hP : PDp g p size late now A mw kv bs ck) (hg : Heap.le g h) :
    h.cell ((⟨p, 0, none⟩ : Addr).add 0) = some (.int .i64 size) ∧ h.cell ((⟨p, 0, none⟩ : Addr).add 1) = some (.int .i64 late) ∧ h.cell ((⟨p, 0, none⟩ : Addr).add 2) = some (.int .i64 now) ∧ h.cell ((⟨p, 0, none⟩ : Addr).add 3) = some (.int .i64 (clos size late now : Nat)) ∧ h.cell ((⟨p, 0, none⟩ : Addr).add 4) = some (.map (some mw)) := by
  have ho := hP.obj.le hg
  exact ⟨ho.rules.1 0 (by simp), ho.rules.1 1 (by simp), ho.rules.1 2 (by simp), ho.rules.1 3 (by simp), ho.rules.1 4 (by simp)⟩
def S39 : Spec := fun args h K => ∃ g p size late now A, args = [.pointer (some ⟨p, 0, none⟩)] ∧ PD g p size late now A ∧ Heap.le g h ∧ K (.int .i64 (now : Nat)) h
theorem F39_ok {N : Num} {Γ : Ctx} [GoodC Γ] : Sat S39 (SF N Γ F39) := by
  rintro _ h K ⟨g, p, size, late, now, A, rfl, ⟨mw, kv, bs, ck, hP⟩, hg, hK⟩
  obtain ⟨c0, c1, c2, c3, c4⟩ := hP.read hg
  refine i_fun rfl ?_
  simp only [F39, env0, List.map, List.length, List.replicate, List.cons_append, List.nil_append, Nat.reduceSub, Nat.reduceAdd]
  try simp (disch := first | omega | (simp only [PL]; omega)) only [PS, P1, P2, P3, P4, P5, P6, P7, P8, PA, PB, PC, Nat.reduceAdd, Nat.reduceSub, Nat.reduceMul, Nat.reduceLeDiff, Nat.reduceEqDiff, Nat.succ_ne_self, reduceCtorEq, Int.reduceToNat, Int.cast_ofNat_Int, Int.reduceEq, Int.reduceNe, Int.reduceLT, Int.reduceLE, c2]
  exact hK
def S40 : Spec := fun args h K => ∃ g p size late now A, args = [.pointer (some ⟨p, 0, none⟩)] ∧ PD g p size late now A ∧ Heap.le g h ∧ K (.int .i64 (clos size late now : Nat)) h
theorem F40_ok {N : Num} {Γ : Ctx} [GoodC Γ] : Sat S40 (SF N Γ F40) := by
  rintro _ h K ⟨g, p, size, late, now, A, rfl, ⟨mw, kv, bs, ck, hP⟩, hg, hK⟩
  obtain ⟨c0, c1, c2, c3, c4⟩ := hP.read hg
  refine i_fun rfl ?_
  simp only [F40, env0, List.map, List.length, List.replicate, List.cons_append, List.nil_append, Nat.reduceSub, Nat.reduceAdd]
  try simp (disch := first | omega | (simp only [PL]; omega)) only [PS, P1, P2, P3, P4, P5, P6, P7, P8, PA, PB, PC, Nat.reduceAdd, Nat.reduceSub, Nat.reduceMul, Nat.reduceLeDiff, Nat.reduceEqDiff, Nat.succ_ne_self, reduceCtorEq, Int.reduceToNat, Int.cast_ofNat_Int, Int.reduceEq, Int.reduceNe, Int.reduceLT, Int.reduceLE, c3]
  exact hK
theorem PDp.vsl {g : Heap} {p size late now : Nat} {A : List Si} {mw : Nat} {kv : List (Int × Value)} {bs : List Nat} {ck : Nat} (hP : PDp g p size late now A mw kv bs ck) (k : Nat) :
    SlB Si.enc 4 g (vof kv k) (opn size late now A k) ∧ blkOf (vof kv k) ≠ some p ∧ blkOf (vof kv k) ≠ some mw := by
  unfold vof
  cases hl : look kv (k : Int) with
  | none => rw [hP.no k hl]; exact ⟨SlB.nil, by simp [blkOf], by simp [blkOf]⟩
  | some v =>
    obtain ⟨k', x, e, h1, h2, h3, h4⟩ := hP.so _ _ hl
    obtain rfl : k = k' := by omega
    exact ⟨h4, by simp [h1, h2], by simp [h1, h3]⟩
/-- only these blocks -/
def two (p m : Nat) (h : Heap) : Heap := fun b => if b = p ∨ b = m then h b else none
theorem two_le {p m : Nat} {h h' : Heap} (h1 : ∀ o, h p = some o → h' p = some o) (h2 : ∀ o, h m = some o → h' m = some o) : Heap.le (two p m h) h' := by
  intro b o hb
  unfold two at hb
  split at hb
  · rename_i e
    rcases e with rfl | rfl
    · exact h1 o hb
    · exact h2 o hb
  · cases hb
theorem objAt.nsetE {h : Heap} {b m : Nat} {o : Obj} {cs : List Value} (ho : objAt h ⟨b, 0, none⟩ cs) (hm : b ≠ m) : objAt (h.set m o) ⟨b, 0, none⟩ cs := but.obj (b := m) (fun x hx => Heap.set_ne hx) hm ho
def S37 (N : Num) : Spec := fun args h K => ∃ g p, ∃ size late now : Nat, ∃ A s, args = [.pointer (some ⟨p, 0, none⟩), aggS s] ∧ PD g p size late now A ∧ Heap.le g h ∧ 0 < size ∧ size ≤ 1000 ∧ late ≤ 1000 ∧ now ≤ 1000 ∧ A.length < 1000 ∧
  (adF size late now s ≠ 0 → K (errV N (adF size late now s)) h) ∧ (adF size late now s = 0 → ∀ g' h', Step g h g' h' → PD g' p size late now (A ++ [s]) → K .nilIface h')
theorem F37_ok {N : Num} {Γ : Ctx} [GoodC Γ] : Sat (S37 N) (SF N Γ F37) := by
  rintro _ h K ⟨g, p, size, late, now, A, s, rfl, ⟨mw, kv, bs, ck, hP⟩, hg, hs1, hs2, hl, hn, hA, hK1, hK2⟩
  obtain ⟨c0, c1, c2, c3, c4⟩ := hP.read hg
  refine i_fun rfl ?_
  simp only [F37, env0, List.map, List.length, List.replicate, List.cons_append, List.nil_append, Nat.reduceSub, Nat.reduceAdd, aggS]
  unfold adF at hK1 hK2
  try simp (disch := first | omega | (simp only [PL]; omega)) only [PS, P1, P2, P3, P4, P5, P6, P7, P8, PA, PB, PC, Nat.reduceAdd, Nat.reduceSub, Nat.reduceMul, Nat.reduceLeDiff, Nat.reduceEqDiff, Nat.succ_ne_self, reduceCtorEq, Int.reduceToNat, Int.cast_ofNat_Int, Int.reduceEq, Int.reduceNe, Int.reduceLT, Int.reduceLE, c2]
  refine i_cond (fun cc => ?_) (fun cc => ?_)
  · have hb : adBad now s := by unfold adBad; omega
    rw [if_pos hb] at hK1
    try simp (disch := first | omega | (simp only [PL]; omega)) only [PS, P1, P2, P3, P4, P5, P6, P7, P8, PA, PB, PC, Nat.reduceAdd, Nat.reduceSub, Nat.reduceMul, Nat.reduceLeDiff, Nat.reduceEqDiff, Nat.succ_ne_self, reduceCtorEq, Int.reduceToNat, Int.cast_ofNat_Int, Int.reduceEq, Int.reduceNe, Int.reduceLT, Int.reduceLE]
    exact hK1 (by omega)
  have hb : ¬ adBad now s := by unfold adBad; omega
  rw [if_neg hb] at hK1 hK2
  unfold adBad at hb
  obtain ⟨tn, htn⟩ : ∃ tn : Nat, s.time = tn := ⟨s.time.toNat, by omega⟩
  have hep : ep size s = tn / size := by unfold ep; rw [htn, Int.toNat_natCast]
  have hq : Int.tdiv (tn : Int) (size : Int) = ((tn / size : Nat) : Int) := rfl
  have htnl : tn / size ≤ tn := Nat.div_le_self _ _
  have hwq : IntKind.i64.wrap ((tn / size : Nat) : Int) = ((tn / size : Nat) : Int) := w64 (by omega) (by omega)
  have hsz0 : ((size : Int) = 0) = False := by rw [eq_iff_iff]; simp; omega
  rw [hep] at hK1 hK2
  rw [htn]
  generalize hk : tn / size = k at *
  try simp (disch := first | omega | (simp only [PL]; omega)) only [PS, P1, P2, P3, P4, P5, P6, P7, P8, PA, PB, PC, Nat.reduceAdd, Nat.reduceSub, Nat.reduceMul, Nat.reduceLeDiff, Nat.reduceEqDiff, Nat.succ_ne_self, reduceCtorEq, Int.reduceToNat, Int.cast_ofNat_Int, Int.reduceEq, Int.reduceNe, Int.reduceLT, Int.reduceLE, c0, hq, hwq, hsz0, c3]
  refine i_cond (fun cc2 => ?_) (fun cc2 => ?_)
  · rw [if_pos (by omega)] at hK1
    try simp (disch := first | omega | (simp only [PL]; omega)) only [PS, P1, P2, P3, P4, P5, P6, P7, P8, PA, PB, PC, Nat.reduceAdd, Nat.reduceSub, Nat.reduceMul, Nat.reduceLeDiff, Nat.reduceEqDiff, Nat.succ_ne_self, reduceCtorEq, Int.reduceToNat, Int.cast_ofNat_Int, Int.reduceEq, Int.reduceNe, Int.reduceLT, Int.reduceLE]
    exact hK1 (by omega)
  rw [if_neg (by omega)] at hK2
  have hm := (hP.wm.le hg).lkpE (k : Int)
  obtain ⟨hvs, hvp, hvm⟩ := hP.vsl k
  have OV := hvs.one
  try simp (disch := first | omega | (simp only [PL]; omega)) only [PS, P1, P2, P3, P4, P5, P6, P7, P8, PA, PB, PC, Nat.reduceAdd, Nat.reduceSub, Nat.reduceMul, Nat.reduceLeDiff, Nat.reduceEqDiff, Nat.succ_ne_self, reduceCtorEq, Int.reduceToNat, Int.cast_ofNat_Int, Int.reduceEq, Int.reduceNe, Int.reduceLT, Int.reduceLE, c4, hm]
  have htwo : ∀ H : Heap, (∀ o, h p = some o → H p = some o) → (∀ o, h mw = some o → H mw = some o) → Heap.le (two p mw h) H := fun H h1 h2 => two_le h1 h2
  have htp : ∀ {x : Value}, h.cell ((⟨p, 0, none⟩ : Addr).add 4) = some x → (two p mw h).cell ((⟨p, 0, none⟩ : Addr).add 4) = some x := fun {x} hx => by
    have : two p mw h p = h p := by simp [two]
    simpa [Heap.cell, Heap.cells, this, Addr.add] using hx
  have hmt : o2V (two p mw h) (.lkp .int (.slice none 0 0)) (.v (.map (some mw))) (.v (.int .i64 (k : Int))) = some (.v (vof kv k)) := by
    obtain ⟨es, q1, q2⟩ := hP.wm.le hg
    exact MapB.lkpE (h := two p mw h) ⟨es, by simp [two, q1], q2⟩ k
  refine i_bslB Si.enc 4 Si.enc_len [s] (by simp [Si.enc, htn]) rfl (by simp [maxLen]) fun x1 b1 h1 hle1 hb1 hx1 hS1 => ?_
  have O2 := hS1.one
  have hle2 := htwo h1 (fun o => hle1 p o) (fun o => hle1 mw o)
  refine i_lex (two p mw h) (htwo h (fun o h => h) (fun o h => h)) ?_ (le_one hle2) ?_
  · intro l' hl'
    simp only [List.mem_cons, List.not_mem_nil, or_false] at hl'
    have c4' := htp c4
    rcases hl' with rfl | rfl | rfl
    · exact ⟨true, rfl, fun _ => ⟨.v (.map (some mw)), by try simp (disch := first | omega | (simp only [PL]; omega)) only [PS, P1, P2, P3, P4, P5, P6, P7, P8, PA, PB, PC, Nat.reduceAdd, Nat.reduceSub, Nat.reduceMul, Nat.reduceLeDiff, Nat.reduceEqDiff, Nat.succ_ne_self, reduceCtorEq, Int.reduceToNat, Int.cast_ofNat_Int, Int.reduceEq, Int.reduceNe, Int.reduceLT, Int.reduceLE, c4']⟩⟩
    · exact ⟨true, rfl, fun _ => ⟨.v (.map (some mw)), by try simp (disch := first | omega | (simp only [PL]; omega)) only [PS, P1, P2, P3, P4, P5, P6, P7, P8, PA, PB, PC, Nat.reduceAdd, Nat.reduceSub, Nat.reduceMul, Nat.reduceLeDiff, Nat.reduceEqDiff, Nat.succ_ne_self, reduceCtorEq, Int.reduceToNat, Int.cast_ofNat_Int, Int.reduceEq, Int.reduceNe, Int.reduceLT, Int.reduceLE, c4']⟩⟩
    · exact ⟨true, rfl, fun _ => ⟨.v (vof kv k), by try simp (disch := first | omega | (simp only [PL]; omega)) only [PS, P1, P2, P3, P4, P5, P6, P7, P8, PA, PB, PC, Nat.reduceAdd, Nat.reduceSub, Nat.reduceMul, Nat.reduceLeDiff, Nat.reduceEqDiff, Nat.succ_ne_self, reduceCtorEq, Int.reduceToNat, Int.cast_ofNat_Int, Int.reduceEq, Int.reduceNe, Int.reduceLT, Int.reduceLE, c4', hmt]⟩⟩
  try simp (disch := first | omega | (simp only [PL]; omega)) only [PS, P1, P2, P3, P4, P5, P6, P7, P8, PA, PB, PC, Nat.reduceAdd, Nat.reduceSub, Nat.reduceMul, Nat.reduceLeDiff, Nat.reduceEqDiff, Nat.succ_ne_self, reduceCtorEq, Int.reduceToNat, Int.cast_ofNat_Int, Int.reduceEq, Int.reduceNe, Int.reduceLT, Int.reduceLE, O2.1, O2.2, OV.1, OV.2]
  have hln : (opn size late now A k).length ≤ A.length := by unfold opn; split; exact List.length_filter_le _ _; simp
  refine i_appB (enc := Si.enc) (sz := 4) (g := g) (l := opn size late now A k) (l' := [s]) Si.enc_len (by simp [Si.enc, one]) hvs (hg.trans hle1) (SlB.sl Si.enc_len (hS1.le (fr_le _ _))) (by simp; omega) fun v2 h2 g2 hS2 St2 e1 e2 e3 => ?_
  have hgp : g p ≠ none := by obtain ⟨_, c, t, q, _⟩ := hP.obj; rw [q]; simp
  have hgm : g mw ≠ none := by obtain ⟨es, q, _⟩ := hP.wm; rw [q]; simp
  have hv2n : ∀ b, g b ≠ none → blkOf (vof kv k) ≠ some b → blkOf v2 ≠ some b := by
    intro b hb hnb e
    rcases e2 b e with h5 | h5
    · exact hnb h5
    · exact hb (le_none (hg.trans hle1) b h5)
  have hv2p := hv2n p hgp hvp
  have hv2m := hv2n mw hgm hvm
  have hsame : ∀ b, g b ≠ none → blkOf (vof kv k) ≠ some b → g2 b = g b := fun b hb hnb => e1 b hnb (hv2n b hb hnb)
  have hwm2 : MapB encKI id g2 mw kv bs ck := by
    obtain ⟨es, q1, q2⟩ := hP.wm
    exact ⟨es, by rw [hsame mw hgm hvm]; exact q1, q2⟩
  have O3 := hS2.one
  have hle3 : Heap.le (two p mw h) h2 := htwo h2 (fun o hx => e3 p o (hle1 p o hx) hvp) (fun o hx => e3 mw o (hle1 mw o hx) hvm)
  try simp (disch := first | omega | (simp only [PL]; omega)) only [PS, P1, P2, P3, P4, P5, P6, P7, P8, PA, PB, PC, Nat.reduceAdd, Nat.reduceSub, Nat.reduceMul, Nat.reduceLeDiff, Nat.reduceEqDiff, Nat.succ_ne_self, reduceCtorEq, Int.reduceToNat, Int.cast_ofNat_Int, Int.reduceEq, Int.reduceNe, Int.reduceLT, Int.reduceLE]
  refine i_lew (le_one hle3) ?_
  try simp (disch := first | omega | (simp only [PL]; omega)) only [PS, P1, P2, P3, P4, P5, P6, P7, P8, PA, PB, PC, Nat.reduceAdd, Nat.reduceSub, Nat.reduceMul, Nat.reduceLeDiff, Nat.reduceEqDiff, Nat.succ_ne_self, reduceCtorEq, Int.reduceToNat, Int.cast_ofNat_Int, Int.reduceEq, Int.reduceNe, Int.reduceLT, Int.reduceLE, O3.1, O3.2]
  refine i_mupd (ek := encKI) (ev := (id : Value → Value)) hwm2 St2.le (k : Int) v2 fun o bs' ck' hm' St' _ => ?_
  try simp (disch := first | omega | (simp only [PL]; omega)) only [PS, P1, P2, P3, P4, P5, P6, P7, P8, PA, PB, PC, Nat.reduceAdd, Nat.reduceSub, Nat.reduceMul, Nat.reduceLeDiff, Nat.reduceEqDiff, Nat.succ_ne_self, reduceCtorEq, Int.reduceToNat, Int.cast_ofNat_Int, Int.reduceEq, Int.reduceNe, Int.reduceLT, Int.reduceLE]
  obtain ⟨x2, hx2⟩ : ∃ x, blkOf v2 = some x := by
    obtain ⟨a, cap, rfl, q1, q2, q3⟩ := hS2
    rcases q3 with ⟨_, e, _⟩ | ⟨b, c, t, rfl, _⟩
    · simp at e
    · exact ⟨b, rfl⟩
  have hopn : ∀ k' : Nat, opn size late now (A ++ [s]) k' = if k' = k then opn size late now A k ++ [s] else opn size late now A k' := by
    intro k'
    unfold opn
    by_cases hkk : k' = k
    · subst hkk
      rw [if_pos rfl, if_pos (by omega), if_pos (by omega), List.filter_append]
      congr 1
      rw [List.filter_cons_of_pos (by simp [hep])]; rfl
    · rw [if_neg hkk]
      by_cases hc : clos size late now ≤ k'
      · rw [if_pos hc, if_pos hc, List.filter_append]
        have : [s].filter (fun s => decide (ep size s = k')) = [] := by rw [List.filter_cons_of_neg (by simp [hep]; omega)]; rfl
        rw [this, List.append_nil]
      · rw [if_neg hc, if_neg hc]
  refine hK2 rfl _ _ (((Step.more hg hle1).trans St2).trans St') ⟨mw, _, _, _, ?_, hm', hP.pm, fun k' hk' => ?_, fun n v hv => ?_, fun n n' v v' hv hv' he => ?_⟩
  · exact (objAt_kept hP.obj fun o' ho' => by rw [hsame p hgp hvp]; exact ho').nsetE hP.pm
  · rw [look_upd] at hk'
    split at hk'
    · cases hk'
    · rename_i hne
      rw [hopn k', if_neg (by omega)]; exact hP.no k' hk'
  · rw [look_upd] at hv
    split at hv
    · rename_i e
      cases hv
      refine ⟨k, x2, e, hx2, fun e' => hv2p (by rw [hx2, e']), fun e' => hv2m (by rw [hx2, e']), ?_⟩
      rw [hopn k, if_pos rfl]
      exact hS2.same fun b hb => Heap.set_ne (by rintro rfl; exact hv2m hb)
    · rename_i hne
      obtain ⟨k', x, e, q1, q2, q3, q4⟩ := hP.so n v hv
      refine ⟨k', x, e, q1, q2, q3, ?_⟩
      rw [hopn k', if_neg (by omega)]
      refine q4.same fun b hb => ?_
      rw [Heap.set_ne (by rintro rfl; rw [q1] at hb; exact q3 (by simpa using hb))]
      refine hsame b (q4.mem hb) fun e' => hne ?_
      -- the same block: the same epoch
      unfold vof at e'
      cases hl : look kv (k : Int) with
      | none => rw [hl] at e'; simp [blkOf] at e'
      | some u =>
        rw [hl] at e'
        exact hP.inj n k v u hv hl (by rw [hb]; exact e'.symm)
  · rw [look_upd] at hv hv'
    have hno : ∀ n v, look kv n = some v → n ≠ (k : Int) → blkOf v ≠ blkOf v2 := by
      intro n v hv hne he
      obtain ⟨k', x, e, q1, q2, q3, q4⟩ := hP.so n v hv
      have hgx := q4.mem q1
      refine hv2n x hgx (fun e' => ?_) (by rw [← he]; exact q1)
      unfold vof at e'
      cases hl : look kv (k : Int) with
      | none => rw [hl] at e'; simp [blkOf] at e'
      | some u =>
        rw [hl] at e'
        exact hne (hP.inj n k v u hv hl (by rw [q1]; exact e'.symm))
    by_cases h1 : n = (k : Int)
    · by_cases h2 : n' = (k : Int)
      · omega
      · rw [if_pos h1] at hv; rw [if_neg h2] at hv'
        cases hv
        exact absurd he.symm (hno n' v' hv' h2)
    · rw [if_neg h1] at hv
      by_cases h2 : n' = (k : Int)
      · rw [if_pos h2] at hv'
        cases hv'
        exact absurd he (hno n v hv h1)
      · rw [if_neg h2] at hv'
        exact hP.inj n n' v v' hv hv' he
end Go.Cw
/- Taking an entry out of a map. -/
namespace Go.Cw
open Go
section
variable {κ ν : Type} [DecidableEq κ]
theorem zip_erase {α β γ : Type} (f : α → β → γ) : ∀ (l : List α) (m : List β) (j : Nat), l.length = m.length → List.zipWith f (l.eraseIdx j) (m.eraseIdx j) = (List.zipWith f l m).eraseIdx j := by
  intro l
  induction l with
  | nil => intro m j h; cases m <;> simp at h ⊢
  | cons a l ih =>
    intro m j h
    cases m with
    | nil => simp at h
    | cons b m =>
      cases j with
      | zero => simp
      | succ j => simp only [List.eraseIdx_cons_succ, List.zipWith_cons_cons]; rw [ih m j (by simpa using h)]
theorem look_erase : ∀ (kv : List (κ × ν)) (k : κ) (i j : Nat) (x : ν), (kv.map (·.1)).Nodup → lookI kv k i = some (j, x) → i ≤ j ∧ j - i < kv.length ∧ ∀ k', look (kv.eraseIdx (j - i)) k' = if k' = k then none else look kv k' := by
  intro kv
  induction kv with
  | nil => intro k i j x _ h; simp [lookI] at h
  | cons p r ih =>
    intro k i j x hn h
    have hn' := List.nodup_cons.1 (show (p.1 :: r.map (·.1)).Nodup by simpa using hn)
    simp only [lookI] at h
    split at h
    · rename_i e
      simp only [Option.some.injEq, Prod.mk.injEq] at h
      obtain ⟨rfl, rfl⟩ := h
      refine ⟨Nat.le_refl _, by simp, fun k' => ?_⟩
      rw [Nat.sub_self, List.eraseIdx_cons_zero, look_cons]
      by_cases hk : k' = k
      · subst hk
        rw [if_pos rfl]
        cases hl : look r k' with
        | none => rfl
        | some u =>
          have := look_mem hl
          exact absurd (List.mem_map.2 ⟨_, this, rfl⟩) (by rw [e]; exact hn'.1)
      · rw [if_neg hk, if_neg (by rw [← e]; exact hk)]
    · rename_i e
      obtain ⟨h1, h2, h3⟩ := ih k (i + 1) j x hn'.2 h
      have hj : j - i = (j - (i + 1)) + 1 := by omega
      refine ⟨by omega, by simp; omega, fun k' => ?_⟩
      rw [hj, List.eraseIdx_cons_succ, look_cons, look_cons, h3 k']
      by_cases hk : k' = k
      · subst hk
        rw [if_neg e, if_pos rfl, if_pos rfl]
      · rw [if_neg hk, if_neg hk]
theorem i_mdel {kb : Bk} {ek : κ → Value} [KeyOk kb ek] {ev : ν → Value} {N : Num} {Γ : Ctx} {g h : Heap} {m : Nat} {kv : List (κ × ν)} {bs : List Nat} {ck : Nat} (hm : MapB ek ev g m kv bs ck) (hg : Heap.le g h) (k : κ) {K : Value → Heap → Prop}
    (hK : ∀ g' h' kv' bs', MapB ek ev g' m kv' bs' ck → Heap.le g' h' → (∀ k', look kv' k' = if k' = k then none else look kv k') → (∀ b, b ≠ m → g' b = g b) → (∀ b, b ≠ m → h' b = h b) → K undef h') : efW N Γ (.mdel kb) [.map (some m), ek k] h K := by
  obtain ⟨es, h1, h2, h3, h4, h5, h6⟩ := hm
  have hgm : g m ≠ none := by rw [h1]; simp
  refine ⟨es, ck, hg _ _ h1, _, by rw [h2]; exact findE_eq k kv bs 0 h3, ?_⟩
  cases hl : lookI kv k 0 with
  | none =>
    simp only [Option.map_none]
    refine hK g h kv bs ⟨es, h1, h2, h3, h4, h5, h6⟩ hg (fun k' => ?_) (fun b _ => rfl) fun b _ => rfl
    by_cases hk : k' = k
    · subst hk
      rw [if_pos rfl]; unfold look; rw [hl]; rfl
    · rw [if_neg hk]
  | some p =>
    obtain ⟨j, x⟩ := p
    simp only [Option.map_some]
    obtain ⟨_, hjl, hlk⟩ := look_erase kv k 0 j x h6 hl
    rw [Nat.sub_zero] at hjl hlk
    refine hK (g.set m (.map (es.eraseIdxIfInBounds j) ck)) _ (kv.eraseIdx j) (bs.eraseIdx j) ⟨_, Heap.set_eq, ?_, ?_, ?_, fun b hb => h5 b (List.mem_of_mem_eraseIdx hb), ?_⟩ ?_ hlk (fun b hb => Heap.set_ne hb) fun b hb => Heap.set_ne hb
    · rw [zip_erase _ _ _ _ h3.symm, ← h2, Array.eraseIdxIfInBounds]
      have : j < es.size := by
        have := congrArg List.length h2
        simp at this; omega
      simp [this]
    · rw [List.length_eraseIdx, List.length_eraseIdx, h3]
    · exact h4.sublist (List.eraseIdx_sublist _ _)
    · exact h6.sublist ((List.eraseIdx_sublist kv j).map _)
    · exact (Step.set hg hgm _).le
end
end Go.Cw
namespace Go.Cw
open Go Go.Sort Go.Proofs

def opnN (size next : Nat) (A : List Si) (k : Nat) : List Si := if next ≤ k then A.filter (fun s => decide (ep size s = k)) else []
structure PDq (g : Heap) (p size late now next : Nat) (A : List Si) (mw : Nat) (kv : List (Int × Value)) (bs : List Nat) (ck : Nat) : Prop where
  obj : objAt g ⟨p, 0, none⟩ [.int .i64 size, .int .i64 late, .int .i64 now, .int .i64 next, .map (some mw)]
  wm : MapB encKI id g mw kv bs ck
  pm : p ≠ mw
  no : ∀ k : Nat, look kv (k : Int) = none → opnN size next A k = []
  so : ∀ (n : Int) v, look kv n = some v → ∃ (k : Nat) (x : Nat), n = k ∧ blkOf v = some x ∧ x ≠ p ∧ x ≠ mw ∧ SlB Si.enc 4 g v (opnN size next A k)
  inj : ∀ n n' v v', look kv n = some v → look kv n' = some v' → blkOf v = blkOf v' → n = n'
theorem PDp.q {g : Heap} {p size late now : Nat} {A : List Si} {mw : Nat} {kv : List (Int × Value)} {bs : List Nat} {ck : Nat} (h : PDp g p size late now A mw kv bs ck) : PDq g p size late now (clos size late now) A mw kv bs ck := ⟨h.obj, h.wm, h.pm, h.no, h.so, h.inj⟩
theorem PDq.p {g : Heap} {p size late now : Nat} {A : List Si} {mw : Nat} {kv : List (Int × Value)} {bs : List Nat} {ck : Nat} (h : PDq g p size late now (clos size late now) A mw kv bs ck) : PDp g p size late now A mw kv bs ck := ⟨h.obj, h.wm, h.pm, h.no, h.so, h.inj⟩
theorem PDq.vsl {g : Heap} {p size late now next : Nat} {A : List Si} {mw : Nat} {kv : List (Int × Value)} {bs : List Nat} {ck : Nat} (hP : PDq g p size late now next A mw kv bs ck) (k : Nat) :
    SlB Si.enc 4 g (vof kv k) (opnN size next A k) ∧ blkOf (vof kv k) ≠ some p ∧ blkOf (vof kv k) ≠ some mw := by
  unfold vof
  cases hl : look kv (k : Int) with
  | none => rw [hP.no k hl]; exact ⟨SlB.nil, by simp [blkOf], by simp [blkOf]⟩
  | some v =>
    obtain ⟨k', x, e, h1, h2, h3, h4⟩ := hP.so _ _ hl
    obtain rfl : k = k' := by omega
    exact ⟨h4, by simp [h1, h2], by simp [h1, h3]⟩
/-- another word for its own object -/
theorem PDq.setp {g : Heap} {p size late now next : Nat} {A : List Si} {mw : Nat} {kv : List (Int × Value)} {bs : List Nat} {ck : Nat} (hP : PDq g p size late now next A mw kv bs ck) {o : Obj} {now' next' : Nat} (ho : objAt (g.set p o) ⟨p, 0, none⟩ [.int .i64 size, .int .i64 late, .int .i64 now', .int .i64 next', .map (some mw)])
    (hn : ∀ k : Nat, look kv (k : Int) = none → opnN size next' A k = []) (hs : ∀ (n : Int) v, look kv n = some v → ∀ k : Nat, n = k → opnN size next' A k = opnN size next A k) : PDq (g.set p o) p size late now' next' A mw kv bs ck := by
  refine ⟨ho, ?_, hP.pm, hn, fun n v hv => ?_, hP.inj⟩
  · obtain ⟨es, q1, q2⟩ := hP.wm
    exact ⟨es, by rw [Heap.set_ne (Ne.symm hP.pm)]; exact q1, q2⟩
  · obtain ⟨k, x, e, h1, h2, h3, h4⟩ := hP.so n v hv
    refine ⟨k, x, e, h1, h2, h3, ?_⟩
    rw [hs n v hv k e]
    exact h4.same fun b hb => Heap.set_ne (by rintro rfl; rw [h1] at hb; exact h2 (by simpa using hb))
theorem Outs.step {Gf Gf' H H' : Heap} {v : Value} {L : List (Nat × List Si)} (a : Outs Gf H v L) (hk : ∀ b o, H b = some o → Gf b = none → H' b = some o) (hf : ∀ b, H b ≠ none → Gf b = none → Gf' b = none) : Outs Gf' H' v L := by
  obtain ⟨es, Z, h⟩ := a
  have hm : ∀ b, blkOf v = some b → H b ≠ none := fun b hb => h.sl.mem hb
  refine ⟨es, Z, h.sl.same fun b hb => ?_, fun b hb => ⟨hf b (hm b hb) (h.own b hb).1, (h.own b hb).2⟩, fun b o hb => hk b o (h.le b o hb) (h.fz b (by rw [hb]; simp)), fun b hb => hf b ?_ (h.fz b hb), h.len, h.el⟩
  · cases hh : H b with
    | none => exact absurd hh (hm b hb)
    | some o => exact hk b o hh (h.own b hb).1
  · cases hz : Z b with
    | none => exact absurd hz hb
    | some o => rw [h.le b o hz]; simp
def S34 (N : Num) : Spec := fun args h K => ∃ g p n, ∃ size late now : Nat, ∃ A, args = [.pointer (some ⟨p, 0, none⟩), .int .i64 n] ∧ PD g p size late now A ∧ Heap.le g h ∧ 0 < size ∧ size ≤ 1000 ∧ late ≤ 1000 ∧ now ≤ 1000 ∧ A.length ≤ 1000 ∧
  ((n < 0 ∨ 1000 - (now : Int) < n) → K (.tuple #[.slice none 0 0, errV N 1]) h) ∧
  (∀ m : Nat, n = m → now + m ≤ 1000 → ∀ g' h' v, Step g h g' h' → PD g' p size late (now + m) A → Outs (join (rest g h) g') h' v (closE size late now (now + m) A) → K (.tuple #[v, .nilIface]) h')
theorem F34_ok {N : Num} {Γ : Ctx} [GoodC Γ] (H62 : Sat S62 (Γ 62)) (H61 : Sat (S61 N Γ) (Γ 61)) : Sat (S34 N) (SF N Γ F34) := by
  rintro _ h K ⟨g, p, n, size, late, now, A, rfl, ⟨mw, kv, bs, ck, hP⟩, hg, hs1, hs2, hl, hn, hA, hK1, hK2⟩
  obtain ⟨c0, c1, c2, c3, c4⟩ := hP.read hg
  refine i_fun rfl ?_
  simp only [F34, env0, List.map, List.length, List.replicate, List.cons_append, List.nil_append, Nat.reduceSub, Nat.reduceAdd]
  have hw0 : IntKind.i64.wrap (1000 - (now : Int)) = 1000 - (now : Int) := w64 (by omega) (by omega)
  try simp (disch := first | omega | (simp only [PL]; omega)) only [PS, P1, P2, P3, P4, P5, P6, P7, P8, PA, PB, PC, Nat.reduceAdd, Nat.reduceSub, Nat.reduceMul, Nat.reduceLeDiff, Nat.reduceEqDiff, Nat.succ_ne_self, reduceCtorEq, Int.reduceToNat, Int.cast_ofNat_Int, Int.reduceEq, Int.reduceNe, Int.reduceLT, Int.reduceLE, c2, hw0]
  refine i_cond (fun cc => ?_) (fun cc => ?_)
  · try simp (disch := first | omega | (simp only [PL]; omega)) only [PS, P1, P2, P3, P4, P5, P6, P7, P8, PA, PB, PC, Nat.reduceAdd, Nat.reduceSub, Nat.reduceMul, Nat.reduceLeDiff, Nat.reduceEqDiff, Nat.succ_ne_self, reduceCtorEq, Int.reduceToNat, Int.cast_ofNat_Int, Int.reduceEq, Int.reduceNe, Int.reduceLT, Int.reduceLE]
    exact hK1 (by omega)
  obtain ⟨m, rfl⟩ : ∃ m : Nat, n = m := ⟨n.toNat, by omega⟩
  have hm : now + m ≤ 1000 := by omega
  have hK := hK2 m rfl hm
  clear hK1 hK2
  have hw1 : IntKind.i64.wrap ((now : Int) + m) = ((now + m : Nat) : Int) := by rw [w64 (by omega) (by omega)]; omega
  try simp (disch := first | omega | (simp only [PL]; omega)) only [PS, P1, P2, P3, P4, P5, P6, P7, P8, PA, PB, PC, Nat.reduceAdd, Nat.reduceSub, Nat.reduceMul, Nat.reduceLeDiff, Nat.reduceEqDiff, Nat.succ_ne_self, reduceCtorEq, Int.reduceToNat, Int.cast_ofNat_Int, Int.reduceEq, Int.reduceNe, Int.reduceLT, Int.reduceLE, c2, hw1]
  refine i_st (hP.obj.le hg) 2 1 rfl rfl (by omega) (by simp) fun o hob _ => ?_
  have hgp : g p ≠ none := by obtain ⟨_, c, t, q, _⟩ := hP.obj; rw [q]; simp
  have ho1 : objAt (h.set p o) ⟨p, 0, none⟩ [.int .i64 size, .int .i64 late, .int .i64 (now + m : Nat), .int .i64 (clos size late now : Nat), .map (some mw)] := hob h rfl
  have ho1g : objAt (g.set p o) ⟨p, 0, none⟩ [.int .i64 size, .int .i64 late, .int .i64 (now + m : Nat), .int .i64 (clos size late now : Nat), .map (some mw)] := by
    refine objAt_kept ho1 fun o' ho' => ?_
    simp only [Heap.set, if_true] at ho' ⊢; exact ho'
  have hst := Step.set hg hgp o
  have hQ := hP.q.setp ho1g hP.q.no fun _ _ _ _ _ => rfl
  have hc01 : clos size late now ≤ clos size late (now + m) := Nat.div_le_div_right (by omega)
  have hcl := clos_le (size := size) (late := late) (now := now + m)
  obtain ⟨e0, he0⟩ : ∃ c, c = clos size late now := ⟨_, rfl⟩
  obtain ⟨e1, he1⟩ : ∃ c, c = clos size late (now + m) := ⟨_, rfl⟩
  unfold closE at hK
  rw [← he0, ← he1] at hc01 hK
  rw [← he0] at hQ
  rw [← he1] at hcl
  clear hob ho1 ho1g c0 c1 c2 c3 c4
  generalize h.set p o = h1 at *
  generalize g.set p o = g1 at *
  try simp (disch := first | omega | (simp only [PL]; omega)) only [PS, P1, P2, P3, P4, P5, P6, P7, P8, PA, PB, PC, Nat.reduceAdd, Nat.reduceSub, Nat.reduceMul, Nat.reduceLeDiff, Nat.reduceEqDiff, Nat.succ_ne_self, reduceCtorEq, Int.reduceToNat, Int.cast_ofNat_Int, Int.reduceEq, Int.reduceNe, Int.reduceLT, Int.reduceLE]
  refine i_loop (fun x : Nat × Value => [some (.pointer (some ⟨p, 0, none⟩)), some (.int .i64 m), none, none, some x.2, none, none, none, none, none, none, none])
    (fun x H => e0 ≤ x.1 ∧ x.1 ≤ e1 ∧ ∃ g' kv bs ck, Step g h g' H ∧ PDq g' p size late (now + m) x.1 A mw kv bs ck ∧ Outs (join (rest g h) g') H x.2 ((List.range' e0 (x.1 - e0)).map fun k => (k, ofE size A k))) (fun x => e1 - x.1) (e0, .slice none 0 0) (by dsimp only; try simp only [Pe, and_true, true_and, and_self]) ⟨Nat.le_refl _, hc01, g1, kv, bs, ck, hst, hQ, by rw [Nat.sub_self]; exact Outs.nil⟩ ?_
  clear hQ hst
  rintro ⟨e, v⟩ H ⟨hee0, hee1, g2, kv, bs, ck, hSt, hQ, hO⟩
  dsimp only at hee0 hee1 hQ hO ⊢
  have hread := fun H (hl : Heap.le g2 H) => (hQ.obj.le hl).rules.1
  have d0 : H.cell ((⟨p, 0, none⟩ : Addr).add 0) = some (.int .i64 size) := hread H hSt.le 0 (by simp)
  have d1 : H.cell ((⟨p, 0, none⟩ : Addr).add 1) = some (.int .i64 late) := hread H hSt.le 1 (by simp)
  have d2 : H.cell ((⟨p, 0, none⟩ : Addr).add 2) = some (.int .i64 (now + m : Nat)) := hread H hSt.le 2 (by simp)
  have d3 : H.cell ((⟨p, 0, none⟩ : Addr).add 3) = some (.int .i64 (e : Nat)) := hread H hSt.le 3 (by simp)
  have d4 : H.cell ((⟨p, 0, none⟩ : Addr).add 4) = some (.map (some mw)) := hread H hSt.le 4 (by simp)
  have hwa : IntKind.i64.wrap ((e : Int) + 1) = ((e + 1 : Nat) : Int) := by rw [w64 (by omega) (by omega)]; omega
  have hbd : (e + 1) * size ≤ 1001 * 1000 := Nat.mul_le_mul (by omega) hs2
  have hwb : IntKind.i64.wrap (((e + 1 : Nat) : Int) * (size : Int)) = (((e + 1) * size : Nat) : Int) := by rw [← Int.natCast_mul, w64 (by omega) (by omega)]
  have hwc : IntKind.i64.wrap ((((e + 1) * size : Nat) : Int) + late) = (((e + 1) * size + late : Nat) : Int) := by rw [w64 (by omega) (by omega)]; omega
  have hi := clos_iff (late := late) (now := now + m) (k := e) hs1
  try simp (disch := first | omega | (simp only [PL]; omega)) only [PS, P1, P2, P3, P4, P5, P6, P7, P8, PA, PB, PC, Nat.reduceAdd, Nat.reduceSub, Nat.reduceMul, Nat.reduceLeDiff, Nat.reduceEqDiff, Nat.succ_ne_self, reduceCtorEq, Int.reduceToNat, Int.cast_ofNat_Int, Int.reduceEq, Int.reduceNe, Int.reduceLT, Int.reduceLE, d0, d1, d2, d3, hwa, hwb, hwc]
  refine i_cond (fun c => ?_) (fun c => ?_)
  rotate_left
  · have h9 : ¬ e < clos size late (now + m) := fun h => c (by have := hi.2 h; omega)
    have : e = e1 := by omega
    subst this
    try simp (disch := first | omega | (simp only [PL]; omega)) only [PS, P1, P2, P3, P4, P5, P6, P7, P8, PA, PB, PC, Nat.reduceAdd, Nat.reduceSub, Nat.reduceMul, Nat.reduceLeDiff, Nat.reduceEqDiff, Nat.succ_ne_self, reduceCtorEq, Int.reduceToNat, Int.cast_ofNat_Int, Int.reduceEq, Int.reduceNe, Int.reduceLT, Int.reduceLE]
    rw [he1] at hQ
    exact hK g2 H v hSt ⟨mw, kv, bs, ck, hQ.p⟩ hO
  have he2 : e < e1 := by have := hi.1 (by omega); omega
  have hlk := (hQ.wm.le hSt.le).lkpE (e : Int)
  obtain ⟨hvs, hvp, hvm⟩ := hQ.vsl e
  generalize hsv : vof kv (e : Int) = sv at *
  have OV := hvs.one
  try simp (disch := first | omega | (simp only [PL]; omega)) only [PS, P1, P2, P3, P4, P5, P6, P7, P8, PA, PB, PC, Nat.reduceAdd, Nat.reduceSub, Nat.reduceMul, Nat.reduceLeDiff, Nat.reduceEqDiff, Nat.succ_ne_self, reduceCtorEq, Int.reduceToNat, Int.cast_ofNat_Int, Int.reduceEq, Int.reduceNe, Int.reduceLT, Int.reduceLE, d3, d4, hlk]
  refine i_newO fun b5 H1 hle1 hb5 ho5 => ?_
  refine i_le (le_one hle1) ?_
  try simp (disch := first | omega | (simp only [PL]; omega)) only [PS, P1, P2, P3, P4, P5, P6, P7, P8, PA, PB, PC, Nat.reduceAdd, Nat.reduceSub, Nat.reduceMul, Nat.reduceLeDiff, Nat.reduceEqDiff, Nat.succ_ne_self, reduceCtorEq, Int.reduceToNat, Int.cast_ofNat_Int, Int.reduceEq, Int.reduceNe, Int.reduceLT, Int.reduceLE, OV.1, OV.2]
  have ho5' : objAt H1 ⟨b5, 0, none⟩ [.slice none 0 0] := ho5.le (fr_le _ _)
  refine i_st ho5' 0 1 (by rw [OV.2]; rfl) (by rw [OV.2]; simp [OV.1]) (by omega) (by simp) fun o5 hob5 _ => ?_
  have q5 : objAt (H1.set b5 o5) ⟨b5, 0, none⟩ [sv] := by have := hob5 H1 rfl; simpa [OV.2] using this
  have hle2 : Heap.le H (H1.set b5 o5) := but.le (b := b5) hle1 hb5 fun x hx => Heap.set_ne hx
  generalize H1.set b5 o5 = H2 at *
  clear ho5 ho5' hob5
  have d32 : H2.cell ((⟨p, 0, none⟩ : Addr).add 3) = some (.int .i64 (e : Nat)) := cell_hmono hle2 d3
  have d42 : H2.cell ((⟨p, 0, none⟩ : Addr).add 4) = some (.map (some mw)) := cell_hmono hle2 d4
  try simp (disch := first | omega | (simp only [PL]; omega)) only [PS, P1, P2, P3, P4, P5, P6, P7, P8, PA, PB, PC, Nat.reduceAdd, Nat.reduceSub, Nat.reduceMul, Nat.reduceLeDiff, Nat.reduceEqDiff, Nat.succ_ne_self, reduceCtorEq, Int.reduceToNat, Int.cast_ofNat_Int, Int.reduceEq, Int.reduceNe, Int.reduceLT, Int.reduceLE, d32, d42]
  refine i_mdel (ek := encKI) (ev := (id : Value → Value)) hQ.wm (hSt.le.trans hle2) (e : Int) fun g3 H3 kv3 bs3 hm3 hle3 hlk3 hg3 hH3 => ?_
  have hgp2 : g2 p ≠ none := by obtain ⟨_, c, t, q, _⟩ := hQ.obj; rw [q]; simp
  have hgm2 : g2 mw ≠ none := by obtain ⟨es, q, _⟩ := hQ.wm; rw [q]; simp
  have hnn : ∀ b, g2 b ≠ none → H b ≠ none := fun b hb => by
    cases hh : g2 b with
    | none => exact absurd hh hb
    | some o => rw [hSt.le b o hh]; simp
  have hb5m : b5 ≠ mw := by rintro rfl; exact hnn _ hgm2 hb5
  have hb5v : blkOf sv ≠ some b5 := fun e' => hnn _ (hvs.mem e') hb5
  have q53 : objAt H3 ⟨b5, 0, none⟩ [sv] := objAt_kept q5 fun o ho => by rw [hH3 b5 hb5m]; exact ho
  have hvs3 : SlB Si.enc 4 H3 sv (opnN size e A e) := (hvs.le (hSt.le.trans hle2)).same fun b hb => hH3 b (by rintro rfl; exact hvm hb)
  have hQo3 : objAt H3 ⟨p, 0, none⟩ [.int .i64 size, .int .i64 late, .int .i64 (now + m : Nat), .int .i64 e, .map (some mw)] := objAt_kept (hQ.obj.le (hSt.le.trans hle2)) fun o ho => by rw [hH3 p hQ.pm]; exact ho
  obtain ⟨F, hF⟩ : ∃ F : Heap, F = fun b => if blkOf sv = some b then none else H3 b := ⟨_, rfl⟩
  have hFH : Heap.le F H3 := by
    intro b o hb; rw [hF] at hb; dsimp only at hb; split at hb
    · cases hb
    · exact hb
  have hRw : Rw F H3 sv (opnN size e A e).toArray := hvs3.own hFH fun b hb => by rw [hF]; simp [hb]
  have q5F : objAt F ⟨b5, 0, none⟩ [sv] := objAt_kept q53 fun o ho => by rw [hF]; simp [hb5v, ho]
  have hopl : (opnN size e A e).length ≤ 1000 := by
    unfold opnN; split
    · exact Nat.le_trans (List.length_filter_le _ _) hA
    · simp
  have hB53 : H3.cell ⟨b5, 0, none⟩ = some sv := q53.rules.2.1 (by simp)
  try simp (disch := first | omega | (simp only [PL]; omega)) only [PS, P1, P2, P3, P4, P5, P6, P7, P8, PA, PB, PC, Nat.reduceAdd, Nat.reduceSub, Nat.reduceMul, Nat.reduceLeDiff, Nat.reduceEqDiff, Nat.succ_ne_self, reduceCtorEq, Int.reduceToNat, Int.cast_ofNat_Int, Int.reduceEq, Int.reduceNe, Int.reduceLT, Int.reduceLE, hB53, OV.1, OV.2]
  refine i_call H61 ⟨F, sv, N.fid 62, _, befS, (opnN size e A e).toArray, rfl, ?_, by simp; omega, befS_swo, hRw, fun H4 d' hR4 hpm hso hk4 => ?_⟩
  · intro G d i j K' hd hRG hi hj hK'
    have hcG : G.cell ⟨b5, 0, none⟩ = some sv := (q5F.le hRG.1).rules.2.1 (by simp)
    refine i_cal H62 ⟨b5, sv, d.toList, i, j, rfl, hcG, OwnS.sl Si.enc_len hRG, by simp; omega, by simp; omega, ?_⟩
    have e1 : ∀ i, i < d.size → d.toList.getD i default = d[i]! := fun i hi => by
      rw [getElem!_pos d i hi, List.getD_eq_getElem?_getD]; simp [hi]
    rw [e1 i (by omega), e1 j (by omega)]
    exact hK' G (Heap.le.refl G)
  have hd' : d'.toList = ofE size A e := by
    have := sorted_ofL hpm hso
    rw [this]
    unfold opnN ofE
    rw [if_pos (Nat.le_refl e)]
  have hvs4 : SlB Si.enc 4 H4 sv (ofE size A e) := by rw [← hd']; exact (OwnS.slb hR4).1
  have hQo4 := objAt_kept hQo3 fun o ho => hk4 p o ho hvp
  have d34 : H4.cell ((⟨p, 0, none⟩ : Addr).add 3) = some (.int .i64 (e : Nat)) := hQo4.rules.1 3 (by simp)
  have hB54 : H4.cell ⟨b5, 0, none⟩ = some sv := (objAt_kept q53 fun o ho => hk4 b5 o ho hb5v).rules.2.1 (by simp)
  try simp (disch := first | omega | (simp only [PL]; omega)) only [PS, P1, P2, P3, P4, P5, P6, P7, P8, PA, PB, PC, Nat.reduceAdd, Nat.reduceSub, Nat.reduceMul, Nat.reduceLeDiff, Nat.reduceEqDiff, Nat.succ_ne_self, reduceCtorEq, Int.reduceToNat, Int.cast_ofNat_Int, Int.reduceEq, Int.reduceNe, Int.reduceLT, Int.reduceLE, d34, hB54, OV.1, OV.2]
  refine i_bslB encEp 2 encEp_len [(e, sv)] rfl rfl (by simp [maxLen]) fun x1 b1 H5 hle5 hb1 hx1 hS1 => ?_
  have O2 := hS1.one
  try simp (disch := first | omega | (simp only [PL]; omega)) only [PS, P1, P2, P3, P4, P5, P6, P7, P8, PA, PB, PC, Nat.reduceAdd, Nat.reduceSub, Nat.reduceMul, Nat.reduceLeDiff, Nat.reduceEqDiff, Nat.succ_ne_self, reduceCtorEq, Int.reduceToNat, Int.cast_ofNat_Int, Int.reduceEq, Int.reduceNe, Int.reduceLT, Int.reduceLE, O2.1, O2.2]
  obtain ⟨g4, hg4⟩ : ∃ g4 : Heap, g4 = fun b => if blkOf sv = some b then none else g3 b := ⟨_, rfl⟩
  obtain ⟨Z2, hZ2⟩ : ∃ Z2 : Heap, Z2 = fun b => if blkOf sv = some b then H5 b else none := ⟨_, rfl⟩
  have hsvg : ∀ b, blkOf sv = some b → g2 b ≠ none := fun b hb => hvs.mem hb
  have h35 : ∀ b o, H3 b = some o → blkOf sv ≠ some b → H5 b = some o := fun b o hb hne => hle5 b o (hk4 b o hb hne)
  have hH35 : ∀ b o, H b = some o → g2 b = none → H5 b = some o := fun b o hb hn => by
    refine h35 b o ?_ fun e' => hsvg b e' hn
    rw [hH3 b (by rintro rfl; exact hgm2 hn)]; exact hle2 b o hb
  have hg34 : ∀ b, g2 b = none → g4 b = none := fun b hn => by
    rw [hg4]; dsimp only; rw [if_neg fun e' => hsvg b e' hn, hg3 b (by rintro rfl; exact hgm2 hn)]; exact hn
  have hrf : ∀ b o, rest g h b = some o → g2 b = none ∧ H b = some o := fun b o hb => by
    unfold rest at hb
    split at hb
    · rename_i hgb
      exact ⟨hSt.fresh b (by rw [hb]; simp) hgb, hSt.frame b o hb hgb⟩
    · cases hb
  have hO5 : Outs (join (rest g h) g4) H5 v ((List.range' e0 (e - e0)).map fun k => (k, ofE size A k)) := by
    refine hO.step (fun b o hb hn => ?_) fun b hb hn => ?_
    · refine hH35 b o hb ?_
      simp only [join] at hn
      cases hr : rest g h b with
      | some o' => rw [hr] at hn; simp at hn
      | none => rw [hr] at hn; simpa using hn
    · simp only [join] at hn
      cases hr : rest g h b with
      | some o' => rw [hr] at hn; simp at hn
      | none => rw [hr] at hn; exact join_none hr (hg34 b (by simpa using hn))
  have hg45 : Heap.le g4 H5 := by
    intro b o hb; rw [hg4] at hb; dsimp only at hb; split at hb
    · cases hb
    · rename_i hne; exact h35 b o (hle3 b o hb) hne
  have hr5 : Heap.le (rest g h) H5 := fun b o hb => by obtain ⟨q1, q2⟩ := hrf b o hb; exact hH35 b o q2 q1
  have hvg : ∀ b, blkOf v = some b → g2 b = none := fun b hb => by
    obtain ⟨es, Z, hP⟩ := hO
    have hn := (hP.own b hb).1
    simp only [join] at hn
    cases hr : rest g h b with
    | some o' => rw [hr] at hn; simp at hn
    | none => rw [hr] at hn; simpa using hn
  refine i_push (Gf := join (rest g h) g4) (Z2 := Z2) (n := e) (sv := sv) (l := ofE size A e) hO5 (SlB.sl encEp_len (hS1.le (fr_le _ _))) (join_le hr5 hg45) ?_ (fun b hb => ?_) (fun b hb => ?_) ?_ OV.1 (by simp; omega) fun v' H6 hO6 hk6 => ?_
  · intro b o hb; rw [hZ2] at hb; dsimp only at hb; split at hb
    · exact hb
    · cases hb
  · rw [hZ2] at hb
    dsimp only at hb
    split at hb
    · rename_i hsb
      refine join_none ?_ (by rw [hg4]; dsimp only; rw [if_pos hsb])
      cases hr : rest g h b with
      | none => rfl
      | some o' => exact absurd (hrf b o' hr).1 (hsvg b hsb)
    · exact absurd rfl hb
  · rw [hZ2]; dsimp only; rw [if_neg fun e' => hsvg b e' (hvg b hb)]
  · exact SlB.sl Si.enc_len ((hvs4.le hle5).same fun b hb => by rw [hZ2]; simp [hb])
  have hvp6 : blkOf v ≠ some p := fun e' => hgp2 (hvg p e')
  have hQo6 := objAt_kept (hQo4.le hle5) fun o ho => hk6 p o ho hvp6
  have d36 : H6.cell ((⟨p, 0, none⟩ : Addr).add 3) = some (.int .i64 (e : Nat)) := hQo6.rules.1 3 (by simp)
  try simp (disch := first | omega | (simp only [PL]; omega)) only [PS, P1, P2, P3, P4, P5, P6, P7, P8, PA, PB, PC, Nat.reduceAdd, Nat.reduceSub, Nat.reduceMul, Nat.reduceLeDiff, Nat.reduceEqDiff, Nat.succ_ne_self, reduceCtorEq, Int.reduceToNat, Int.cast_ofNat_Int, Int.reduceEq, Int.reduceNe, Int.reduceLT, Int.reduceLE, d36, hwa]
  refine i_st hQo6 3 1 rfl rfl (by omega) (by simp) fun o7 hob7 _ => ?_
  have ho7 : objAt (H6.set p o7) ⟨p, 0, none⟩ [.int .i64 size, .int .i64 late, .int .i64 (now + m : Nat), .int .i64 (e + 1 : Nat), .map (some mw)] := hob7 H6 rfl
  have hg4p : g4 p ≠ none := by rw [hg4]; dsimp only; rw [if_neg hvp, hg3 p hQ.pm]; exact hgp2
  have hg46 : Heap.le g4 H6 := fun b o hb => hk6 b o (hg45 b o hb) fun e' => by rw [hg34 b (hvg b e')] at hb; cases hb
  try simp (disch := first | omega | (simp only [PL]; omega)) only [PS, P1, P2, P3, P4, P5, P6, P7, P8, PA, PB, PC, Nat.reduceAdd, Nat.reduceSub, Nat.reduceMul, Nat.reduceLeDiff, Nat.reduceEqDiff, Nat.succ_ne_self, reduceCtorEq, Int.reduceToNat, Int.cast_ofNat_Int, Int.reduceEq, Int.reduceNe, Int.reduceLT, Int.reduceLE]
  refine k_loop (e + 1, v') (by dsimp only; omega) (by dsimp only; try simp only [Pe, and_true, true_and, and_self]) ⟨by dsimp only; omega, by dsimp only; omega, g4.set p o7, kv3, bs3, ck, ⟨?_, fun b o hb hn => ?_, fun b hb hn => ?_⟩, ⟨?_, ?_, hQ.pm, fun k hk => ?_, fun n u hu => ?_, fun n n' u u' hu hu' he => ?_⟩, ?_⟩
  · intro b o hb
    by_cases e' : b = p
    · subst e'; simp only [Heap.set, if_true] at hb ⊢; exact hb
    · rw [Heap.set_ne e'] at hb ⊢; exact hg46 b o hb
  · have h1 := hSt.fresh b (by rw [hb]; simp) hn
    have h2 := hSt.frame b o hb hn
    rw [Heap.set_ne (by rintro rfl; exact hgp2 h1)]
    refine hk6 b o (hH35 b o h2 h1) fun e' => ?_
    obtain ⟨es, Z, hP⟩ := hO
    have h3 := (hP.own b e').1
    have h4 : rest g h b = some o := by unfold rest; rw [if_pos hn]; exact hb
    simp [join, h4] at h3
  · have h1 := hSt.fresh b hb hn
    rw [Heap.set_ne (by rintro rfl; exact hgp2 h1)]; exact hg34 b h1
  · refine objAt_kept ho7 fun o' ho' => ?_
    simp only [Heap.set, if_true] at ho' ⊢; exact ho'
  · obtain ⟨es, q1, q2⟩ := hm3
    refine ⟨es, ?_, q2⟩
    rw [Heap.set_ne (Ne.symm hQ.pm), hg4]; dsimp only; rw [if_neg hvm]; exact q1
  · rw [hlk3] at hk
    unfold opnN
    by_cases hke : k = e
    · subst hke; rw [if_neg (by omega)]
    · rw [if_neg (by omega)] at hk
      have := hQ.no k hk
      unfold opnN at this
      by_cases hc : e + 1 ≤ k
      · rw [if_pos hc]; rw [if_pos (by omega)] at this; exact this
      · rw [if_neg hc]
  · rw [hlk3] at hu
    split at hu
    · cases hu
    · rename_i hne
      obtain ⟨k, x, e', q1, q2, q3, q4⟩ := hQ.so n u hu
      refine ⟨k, x, e', q1, q2, q3, ?_⟩
      have hopk : opnN size (e + 1) A k = opnN size e A k := by
        unfold opnN
        by_cases hc : e + 1 ≤ k
        · rw [if_pos hc, if_pos (by omega)]
        · rw [if_neg hc, if_neg (by omega)]
      rw [hopk]
      refine q4.same fun b hb => ?_
      have hbx : b = x := by rw [q1] at hb; exact (Option.some.inj hb).symm
      subst hbx
      rw [Heap.set_ne q2, hg4]
      dsimp only
      rw [if_neg fun e'' => hne ?_, hg3 b q3]
      rw [← hsv] at e''
      unfold vof at e''
      cases hl : look kv (e : Int) with
      | none => rw [hl] at e''; simp [blkOf] at e''
      | some w => rw [hl] at e''; exact hQ.inj n e u w hu hl (by rw [q1]; exact e''.symm)
  · rw [hlk3] at hu hu'
    split at hu
    · cases hu
    · split at hu'
      · cases hu'
      · exact hQ.inj n n' u u' hu hu' he
  · dsimp only
    rw [show e + 1 - e0 = (e - e0) + 1 by omega, range'_snoc, List.map_append, show e0 + (e - e0) = e by omega]
    refine hO6.step (fun b o hb hn => ?_) fun b hb hn => ?_
    · rw [Heap.set_ne]
      · exact hb
      · rintro rfl
        simp only [join] at hn
        cases hr : rest g h b with
        | some o' => rw [hr] at hn; simp at hn
        | none => rw [hr] at hn; exact hg4p (by simpa using hn)
    · simp only [join] at hn
      cases hr : rest g h b with
      | some o' => rw [hr] at hn; simp at hn
      | none =>
        rw [hr] at hn
        have hn' : g4 b = none := by simpa using hn
        exact join_none hr (by rw [Heap.set_ne (by rintro rfl; exact hg4p hn')]; exact hn')
end Go.Cw
namespace Go.Cw
open Go Go.Sort Go.Proofs

def EpsR (h : Heap) (v : Value) (L : List (Nat × List Si)) : Prop := ∃ es : List (Nat × Value), Sl encEp h v es ∧ es.length = L.length ∧ ∀ i, i < L.length → (es.getD i default).1 = (L.getD i default).1 ∧ Sl Si.enc h (es.getD i default).2 (L.getD i default).2
theorem Outs.epsR {Gf H : Heap} {v : Value} {L : List (Nat × List Si)} (a : Outs Gf H v L) : EpsR H v L := by
  obtain ⟨es, Z, h⟩ := a
  exact ⟨es, SlB.sl encEp_len h.sl, h.len, fun i hi => ⟨(h.el i hi).1, (h.el i hi).2.1.le h.le⟩⟩
theorem EpsR.nil {h : Heap} : EpsR h (.slice none 0 0) [] := ⟨[], Sl.nil, rfl, fun i hi => by simp at hi⟩
theorem aggS_same (h : Heap) (s : Si) : o2V h (.eqv (.flat [.int, .int, .int, .str]) true) (.v (aggS s)) (.v (aggS s)) = some (.v (.bool false)) := by
  have key : cellsEq [.int, .int, .int, .str] [.int .i64 s.place, .int .i64 s.strength, .int .i64 s.time, .string (str s.tag)] [.int .i64 s.place, .int .i64 s.strength, .int .i64 s.time, .string (str s.tag)] = some true := by
    simp only [cellsEq_int, cellsEq_str, cellsEq_nil, if_true]
  simp only [o2V, aggS, eqV]
  rw [key]; rfl
def S36 : Spec := fun args h K => ∃ v w L, args = [v, w] ∧ EpsR h v L ∧ EpsR h w L ∧ L.length ≤ 100000 ∧ (∀ e ∈ L, e.2.length ≤ 100000) ∧ K (.bool true) h
theorem F36_ok {N : Num} {Γ : Ctx} [GoodC Γ] : Sat S36 (SF N Γ F36) := by
  rintro _ h K ⟨v, w, L, rfl, ⟨es, hv, hvl, hve⟩, ⟨fs, hw, hwl, hwe⟩, hL, hLl, hK⟩
  refine i_fun rfl ?_
  simp only [F36, env0, List.map, List.length, List.replicate, List.cons_append, List.nil_append, Nat.reduceSub, Nat.reduceAdd]
  have R := hv.rules 2 encEp_len default
  have S := hw.rules 2 encEp_len default
  rw [hvl] at R
  rw [hwl] at S
  try simp (disch := first | omega | (simp only [PL]; omega)) only [PS, P1, P2, P3, P4, P5, P6, P7, P8, PA, PB, PC, Nat.reduceAdd, Nat.reduceSub, Nat.reduceMul, Nat.reduceLeDiff, Nat.reduceEqDiff, Nat.succ_ne_self, reduceCtorEq, Int.reduceToNat, Int.cast_ofNat_Int, Int.reduceEq, Int.reduceNe, Int.reduceLT, Int.reduceLE, R, S]
  refine i_loop (fun i : Nat => [some v, some w, none, some (.int .i64 i), none, none, none, none, none, none]) (fun i H => i ≤ L.length ∧ H = h) (fun i => L.length - i) 0 (by try simp only [Pe, and_true, true_and, and_self]; rfl) ⟨by omega, rfl⟩ ?_
  rintro i H ⟨hi, rfl⟩
  have hwi : IntKind.i64.wrap ((i : Int) + 1) = ((i + 1 : Nat) : Int) := by rw [w64 (by omega) (by omega)]; omega
  try simp (disch := first | omega | (simp only [PL]; omega)) only [PS, P1, P2, P3, P4, P5, P6, P7, P8, PA, PB, PC, Nat.reduceAdd, Nat.reduceSub, Nat.reduceMul, Nat.reduceLeDiff, Nat.reduceEqDiff, Nat.succ_ne_self, reduceCtorEq, Int.reduceToNat, Int.cast_ofNat_Int, Int.reduceEq, Int.reduceNe, Int.reduceLT, Int.reduceLE, R]
  refine i_cond (fun c => ?_) (fun c => ?_)
  rotate_left
  · try simp (disch := first | omega | (simp only [PL]; omega)) only [PS, P1, P2, P3, P4, P5, P6, P7, P8, PA, PB, PC, Nat.reduceAdd, Nat.reduceSub, Nat.reduceMul, Nat.reduceLeDiff, Nat.reduceEqDiff, Nat.succ_ne_self, reduceCtorEq, Int.reduceToNat, Int.cast_ofNat_Int, Int.reduceEq, Int.reduceNe, Int.reduceLT, Int.reduceLE]
    exact hK
  have hi2 : i < L.length := by omega
  obtain ⟨a1, a2⟩ := hve i hi2
  obtain ⟨b1, b2⟩ := hwe i hi2
  have hll := hLl _ (getD_mem default hi2)
  have RA := a2.rules 4 Si.enc_len default
  have RB := b2.rules 4 Si.enc_len default
  generalize hea : es.getD i default = ea at *
  generalize heb : fs.getD i default = eb at *
  generalize L.getD i default = el at *
  try simp (disch := first | omega | (simp only [PL]; omega)) only [PS, P1, P2, P3, P4, P5, P6, P7, P8, PA, PB, PC, Nat.reduceAdd, Nat.reduceSub, Nat.reduceMul, Nat.reduceLeDiff, Nat.reduceEqDiff, Nat.succ_ne_self, reduceCtorEq, Int.reduceToNat, Int.cast_ofNat_Int, Int.reduceEq, Int.reduceNe, Int.reduceLT, Int.reduceLE, R, S, encEp, hea, heb, a1, b1, RA, RB]
  refine i_loop (fun k : Nat => [some v, some w, none, some (.int .i64 i), some (.int .i64 k), none, none, none, none, none]) (fun k G => k ≤ el.2.length ∧ G = H) (fun k => el.2.length - k) 0 (by try simp only [Pe, and_true, true_and, and_self]; rfl) ⟨by omega, rfl⟩ ?_
  rintro k G ⟨hk, rfl⟩
  have hwk : IntKind.i64.wrap ((k : Int) + 1) = ((k + 1 : Nat) : Int) := by rw [w64 (by omega) (by omega)]; omega
  try simp (disch := first | omega | (simp only [PL]; omega)) only [PS, P1, P2, P3, P4, P5, P6, P7, P8, PA, PB, PC, Nat.reduceAdd, Nat.reduceSub, Nat.reduceMul, Nat.reduceLeDiff, Nat.reduceEqDiff, Nat.succ_ne_self, reduceCtorEq, Int.reduceToNat, Int.cast_ofNat_Int, Int.reduceEq, Int.reduceNe, Int.reduceLT, Int.reduceLE, R, S, encEp, hea, heb, RA, RB]
  refine i_cond (fun c2 => ?_) (fun c2 => ?_)
  rotate_left
  · try simp (disch := first | omega | (simp only [PL]; omega)) only [PS, P1, P2, P3, P4, P5, P6, P7, P8, PA, PB, PC, Nat.reduceAdd, Nat.reduceSub, Nat.reduceMul, Nat.reduceLeDiff, Nat.reduceEqDiff, Nat.succ_ne_self, reduceCtorEq, Int.reduceToNat, Int.cast_ofNat_Int, Int.reduceEq, Int.reduceNe, Int.reduceLT, Int.reduceLE, hwi]
    exact k_loop (i + 1) (by omega) (by try simp only [Pe, and_true, true_and, and_self]) ⟨by omega, rfl⟩
  have hs := aggS_same G (el.2.getD k default)
  unfold aggS at hs
  try simp (disch := first | omega | (simp only [PL]; omega)) only [PS, P1, P2, P3, P4, P5, P6, P7, P8, PA, PB, PC, Nat.reduceAdd, Nat.reduceSub, Nat.reduceMul, Nat.reduceLeDiff, Nat.reduceEqDiff, Nat.succ_ne_self, reduceCtorEq, Int.reduceToNat, Int.cast_ofNat_Int, Int.reduceEq, Int.reduceNe, Int.reduceLT, Int.reduceLE, R, S, encEp, hea, heb, RA, RB, Si.enc, hs, hwk]
  exact k_loop (k + 1) (by omega) (by try simp only [Pe, and_true, true_and, and_self]) ⟨by omega, rfl⟩
end Go.Cw
namespace Go.Cw
open Go Go.Sort Go.Proofs

def s18 : Si := ⟨0, 0, 0, [49, 50, 51, 52, 53, 54, 55, 56]⟩
theorem adF_18 : adF 5 1 0 s18 = 0 := by decide
theorem clos_16 : clos 5 1 6 = 1 := by decide
theorem closE_16 : closE 5 1 0 (0 + 6) ([] ++ [s18]) = [(0, [s18])] := by decide
def S32 : Spec := fun args h K => args = [] ∧ ∀ h', Heap.le h h' → K (.bool true) h'
theorem disj_frE {g h h' : Heap} (hg : Heap.le g h) : disj g (fr h h') := by
  intro b hb
  cases e : g b with
  | none => exact absurd e hb
  | some o => exact fr_none (hg b o e)
theorem F32_ok {N : Num} {Γ : Ctx} [GoodC Γ] (H33 : Sat (S33 N) (Γ 33)) (H37 : Sat (S37 N) (Γ 37)) (H34 : Sat (S34 N) (Γ 34)) (H19 : Sat (S19 N) (Γ 19)) (H40 : Sat S40 (Γ 40)) (H39 : Sat S39 (Γ 39)) : Sat S32 (SF N Γ F32) := by
  rintro _ h K ⟨rfl, hK⟩
  refine i_fun rfl ?_
  simp only [F32, env0, List.map, List.length, List.replicate, List.cons_append, List.nil_append, Nat.reduceSub, Nat.reduceAdd]
  try simp (disch := first | omega | (simp only [PL]; omega)) only [PS, P1, P2, P3, P4, P5, P6, P7, P8, PA, PB, PC, Nat.reduceAdd, Nat.reduceSub, Nat.reduceMul, Nat.reduceLeDiff, Nat.reduceEqDiff, Nat.succ_ne_self, reduceCtorEq, Int.reduceToNat, Int.cast_ofNat_Int, Int.reduceEq, Int.reduceNe, Int.reduceLT, Int.reduceLE]
  refine i_call H33 ⟨5, 1, rfl, fun hb => absurd hb (by unfold epBad; omega), fun _ p h1 hp hle1 hP => ?_⟩
  have e5 : (5 : Int).toNat = 5 := rfl
  have e1 : (1 : Int).toNat = 1 := rfl
  rw [e5, e1] at hP
  try simp (disch := first | omega | (simp only [PL]; omega)) only [PS, P1, P2, P3, P4, P5, P6, P7, P8, PA, PB, PC, Nat.reduceAdd, Nat.reduceSub, Nat.reduceMul, Nat.reduceLeDiff, Nat.reduceEqDiff, Nat.succ_ne_self, reduceCtorEq, Int.reduceToNat, Int.cast_ofNat_Int, Int.reduceEq, Int.reduceNe, Int.reduceLT, Int.reduceLE]
  refine i_call H37 ⟨fr h h1, p, 5, 1, 0, [], s18, rfl, hP, fr_le h h1, by omega, by omega, by omega, by omega, by simp, fun hn => absurd adF_18 hn, fun _ g2 h2 hS2 hP2 => ?_⟩
  obtain ⟨k1, k2⟩ := hS2.keep (f := h) hle1 (disj_frE (Heap.le.refl h))
  try simp (disch := first | omega | (simp only [PL]; omega)) only [PS, P1, P2, P3, P4, P5, P6, P7, P8, PA, PB, PC, Nat.reduceAdd, Nat.reduceSub, Nat.reduceMul, Nat.reduceLeDiff, Nat.reduceEqDiff, Nat.succ_ne_self, reduceCtorEq, Int.reduceToNat, Int.cast_ofNat_Int, Int.reduceEq, Int.reduceNe, Int.reduceLT, Int.reduceLE]
  refine i_call H34 ⟨g2, p, 6, 5, 1, 0, _, rfl, hP2, hS2.le, by omega, by omega, by omega, by omega, by simp, fun hn => by omega, fun m hm _ g3 h3 v hS3 hP3 hO3 => ?_⟩
  obtain rfl : m = 6 := by omega
  obtain ⟨k3, k4⟩ := hS3.keep k1 k2
  rw [closE_16] at hO3
  obtain ⟨es, hes, hel, hee⟩ := hO3.epsR
  obtain ⟨a1, a2'⟩ := hee 0 (by simp)
  have hel' : es.length = 1 := hel
  have a2 : Sl Si.enc h3 (es.getD 0 default).2 [s18] := a2'
  have R := hes.rules 2 encEp_len default
  rw [hel'] at R
  have RA := a2.rules 4 Si.enc_len default
  rw [show ([s18] : List Si).length = 1 from rfl] at RA
  clear a1 a2 a2' hee
  generalize hea : es.getD 0 default = ea at *
  try simp (disch := first | omega | (simp only [PL]; omega)) only [PS, P1, P2, P3, P4, P5, P6, P7, P8, PA, PB, PC, Nat.reduceAdd, Nat.reduceSub, Nat.reduceMul, Nat.reduceLeDiff, Nat.reduceEqDiff, Nat.succ_ne_self, reduceCtorEq, Int.reduceToNat, Int.cast_ofNat_Int, Int.reduceEq, Int.reduceNe, Int.reduceLT, Int.reduceLE]
  refine i_call H19 ⟨0, 0, rfl, ?_⟩
  rw [decide_eq_true rfl]
  try simp (disch := first | omega | (simp only [PL]; omega)) only [PS, P1, P2, P3, P4, P5, P6, P7, P8, PA, PB, PC, Nat.reduceAdd, Nat.reduceSub, Nat.reduceMul, Nat.reduceLeDiff, Nat.reduceEqDiff, Nat.succ_ne_self, reduceCtorEq, Int.reduceToNat, Int.cast_ofNat_Int, Int.reduceEq, Int.reduceNe, Int.reduceLT, Int.reduceLE, R, encEp, hea, RA]
  refine i_call H40 ⟨g3, p, 5, 1, 6, _, rfl, hP3, hS3.le, ?_⟩
  rw [clos_16]
  try simp (disch := first | omega | (simp only [PL]; omega)) only [PS, P1, P2, P3, P4, P5, P6, P7, P8, PA, PB, PC, Nat.reduceAdd, Nat.reduceSub, Nat.reduceMul, Nat.reduceLeDiff, Nat.reduceEqDiff, Nat.succ_ne_self, reduceCtorEq, Int.reduceToNat, Int.cast_ofNat_Int, Int.reduceEq, Int.reduceNe, Int.reduceLT, Int.reduceLE]
  refine i_call H39 ⟨g3, p, 5, 1, 6, _, rfl, hP3, hS3.le, ?_⟩
  try simp (disch := first | omega | (simp only [PL]; omega)) only [PS, P1, P2, P3, P4, P5, P6, P7, P8, PA, PB, PC, Nat.reduceAdd, Nat.reduceSub, Nat.reduceMul, Nat.reduceLeDiff, Nat.reduceEqDiff, Nat.succ_ne_self, reduceCtorEq, Int.reduceToNat, Int.cast_ofNat_Int, Int.reduceEq, Int.reduceNe, Int.reduceLT, Int.reduceLE]
  exact hK h3 k3

structure Ac where
  kind : List UInt8
  n : Int
  s : List UInt8
  x : Si
  deriving Inhabited
def Ac.enc (a : Ac) : List Value := [.string (str a.kind), .int .i64 a.n, .string (str a.s), .int .i64 a.x.place, .int .i64 a.x.strength, .int .i64 a.x.time, .string (str a.x.tag)]
theorem Ac.enc_len (a : Ac) : a.enc.length = 7 := rfl
def S7 : Spec := fun args h K => ∃ size late v L, args = [.int .i64 size, .int .i64 late, v] ∧ Sl Ac.enc h v L ∧ ∀ h', Heap.le h h' → K (.bool true) h'
theorem rest_disj {g h F : Heap} (hF : Heap.le F h) (hd : disj F g) : Heap.le F (rest g h) := by
  intro b o hb
  unfold rest
  rw [if_pos (hd b (by rw [hb]; simp))]; exact hF b o hb
theorem F7_ok {N : Num} {Γ : Ctx} [GoodC Γ] (H32 : Sat S32 (Γ 32)) (H33 : Sat (S33 N) (Γ 33)) (H19 : Sat (S19 N) (Γ 19)) (H34 : Sat (S34 N) (Γ 34)) (H35 : Sat S35 (Γ 35)) (H36 : Sat S36 (Γ 36)) (H37 : Sat (S37 N) (Γ 37)) (H38 : Sat S38 (Γ 38)) (H39 : Sat S39 (Γ 39)) (H40 : Sat S40 (Γ 40)) (H41 : Sat S41 (Γ 41)) : Sat S7 (SF N Γ F7) := by
  rintro _ h K ⟨size, late, v, L, rfl, hL, hK⟩
  refine i_fun rfl ?_
  simp only [F7, env0, List.map, List.length, List.replicate, List.cons_append, List.nil_append, Nat.reduceSub, Nat.reduceAdd]
  try simp (disch := first | omega | (simp only [PL]; omega)) only [PS, P1, P2, P3, P4, P5, P6, P7, P8, PA, PB, PC, Nat.reduceAdd, Nat.reduceSub, Nat.reduceMul, Nat.reduceLeDiff, Nat.reduceEqDiff, Nat.succ_ne_self, reduceCtorEq, Int.reduceToNat, Int.cast_ofNat_Int, Int.reduceEq, Int.reduceNe, Int.reduceLT, Int.reduceLE]
  refine i_call H32 ⟨rfl, fun h1 hle1 => ?_⟩
  have hL1 := hL.le hle1
  have R1 := hL1.rules 7 Ac.enc_len default
  try simp (disch := first | omega | (simp only [PL]; omega)) only [PS, P1, P2, P3, P4, P5, P6, P7, P8, PA, PB, PC, Nat.reduceAdd, Nat.reduceSub, Nat.reduceMul, Nat.reduceLeDiff, Nat.reduceEqDiff, Nat.succ_ne_self, reduceCtorEq, Int.reduceToNat, Int.cast_ofNat_Int, Int.reduceEq, Int.reduceNe, Int.reduceLT, Int.reduceLE, R1]
  refine i_cond (fun c1 => ?_) (fun c1 => ?_)
  · try simp (disch := first | omega | (simp only [PL]; omega)) only [PS, P1, P2, P3, P4, P5, P6, P7, P8, PA, PB, PC, Nat.reduceAdd, Nat.reduceSub, Nat.reduceMul, Nat.reduceLeDiff, Nat.reduceEqDiff, Nat.succ_ne_self, reduceCtorEq, Int.reduceToNat, Int.cast_ofNat_Int, Int.reduceEq, Int.reduceNe, Int.reduceLT, Int.reduceLE]
    exact hK h1 hle1
  try simp (disch := first | omega | (simp only [PL]; omega)) only [PS, P1, P2, P3, P4, P5, P6, P7, P8, PA, PB, PC, Nat.reduceAdd, Nat.reduceSub, Nat.reduceMul, Nat.reduceLeDiff, Nat.reduceEqDiff, Nat.succ_ne_self, reduceCtorEq, Int.reduceToNat, Int.cast_ofNat_Int, Int.reduceEq, Int.reduceNe, Int.reduceLT, Int.reduceLE]
  refine i_call H33 ⟨size, late, rfl, fun hb => ?_, fun hb p h2 hp hle2 hP => ?_⟩
  · unfold epBad at hb
    try simp (disch := first | omega | (simp only [PL]; omega)) only [PS, P1, P2, P3, P4, P5, P6, P7, P8, PA, PB, PC, Nat.reduceAdd, Nat.reduceSub, Nat.reduceMul, Nat.reduceLeDiff, Nat.reduceEqDiff, Nat.succ_ne_self, reduceCtorEq, Int.reduceToNat, Int.cast_ofNat_Int, Int.reduceEq, Int.reduceNe, Int.reduceLT, Int.reduceLE]
    refine i_cond (fun c2 => ?_) (fun c2 => by exfalso; omega)
    try simp (disch := first | omega | (simp only [PL]; omega)) only [PS, P1, P2, P3, P4, P5, P6, P7, P8, PA, PB, PC, Nat.reduceAdd, Nat.reduceSub, Nat.reduceMul, Nat.reduceLeDiff, Nat.reduceEqDiff, Nat.succ_ne_self, reduceCtorEq, Int.reduceToNat, Int.cast_ofNat_Int, Int.reduceEq, Int.reduceNe, Int.reduceLT, Int.reduceLE]
    refine i_call H19 ⟨1, 1, rfl, ?_⟩
    rw [decide_eq_true rfl]
    try simp (disch := first | omega | (simp only [PL]; omega)) only [PS, P1, P2, P3, P4, P5, P6, P7, P8, PA, PB, PC, Nat.reduceAdd, Nat.reduceSub, Nat.reduceMul, Nat.reduceLeDiff, Nat.reduceEqDiff, Nat.succ_ne_self, reduceCtorEq, Int.reduceToNat, Int.cast_ofNat_Int, Int.reduceEq, Int.reduceNe, Int.reduceLT, Int.reduceLE]
    exact hK h1 hle1
  unfold epBad at hb
  obtain ⟨sz, rfl⟩ : ∃ n : Nat, size = n := ⟨size.toNat, by omega⟩
  obtain ⟨lt, rfl⟩ : ∃ n : Nat, late = n := ⟨late.toNat, by omega⟩
  rw [Int.toNat_natCast, Int.toNat_natCast] at hP
  try simp (disch := first | omega | (simp only [PL]; omega)) only [PS, P1, P2, P3, P4, P5, P6, P7, P8, PA, PB, PC, Nat.reduceAdd, Nat.reduceSub, Nat.reduceMul, Nat.reduceLeDiff, Nat.reduceEqDiff, Nat.succ_ne_self, reduceCtorEq, Int.reduceToNat, Int.cast_ofNat_Int, Int.reduceEq, Int.reduceNe, Int.reduceLT, Int.reduceLE]
  refine i_cond (fun c2 => by exfalso; omega) (fun c2 => ?_)
  try simp (disch := first | omega | (simp only [PL]; omega)) only [PS, P1, P2, P3, P4, P5, P6, P7, P8, PA, PB, PC, Nat.reduceAdd, Nat.reduceSub, Nat.reduceMul, Nat.reduceLeDiff, Nat.reduceEqDiff, Nat.succ_ne_self, reduceCtorEq, Int.reduceToNat, Int.cast_ofNat_Int, Int.reduceEq, Int.reduceNe, Int.reduceLT, Int.reduceLE]
  refine i_newO fun a h3 hle3 ha ho => ?_
  have hoa : objAt (fr h2 h3) ⟨a, 0, none⟩ [.int .i64 sz, .int .i64 lt, .int .i64 (0 : Nat), .slice none 0 0] := ho
  have hD : DM (fr h2 h3) a sz lt 0 [] := ⟨.slice none 0 0, hoa, SlB.nil, by simp [blkOf]⟩
  have hk0 : K2 h1 h3 (fr h1 h2) (fr h2 h3) h1 := ⟨Heap.le.refl h1, hle2.trans hle3, (fr_le _ _).trans hle3, fr_le _ _, disj_frE (fr_le _ _), (disj_frE (Heap.le.refl h1)).symm, (disj_frE hle2).symm⟩
  try simp (disch := first | omega | (simp only [PL]; omega)) only [PS, P1, P2, P3, P4, P5, P6, P7, P8, PA, PB, PC, Nat.reduceAdd, Nat.reduceSub, Nat.reduceMul, Nat.reduceLeDiff, Nat.reduceEqDiff, Nat.succ_ne_self, reduceCtorEq, Int.reduceToNat, Int.cast_ofNat_Int, Int.reduceEq, Int.reduceNe, Int.reduceLT, Int.reduceLE]
  refine i_loop (fun i : Nat => [some (.int .i64 sz), some (.int .i64 lt), some v, none, none, some (.pointer (some ⟨p, 0, none⟩)), none, some (.pointer (some ⟨a, 0, none⟩)), some (.int .i64 i), none, none, none, none, none, none, none, none, none, none, none, none, none, none, none, none, none, none, none, none, none, none, none, none, none, none, none, none, none, none, none, none, none, none])
    (fun i H => i ≤ L.length ∧ ∃ gp gm now A, K2 h1 H gp gm h1 ∧ PD gp p sz lt now A ∧ DM gm a sz lt now A ∧ now ≤ 1000 ∧ A.length ≤ i) (fun i => L.length - i) 0 (by try simp only [Pe, and_true, true_and, and_self]; rfl) ⟨by omega, _, _, 0, [], hk0, hP, hD, by omega, by simp⟩ ?_
  clear hP hD hk0 hoa ho
  rintro i H ⟨hi, gp, gm, now, A, hk, hP, hD, hn, hA⟩
  have R := (hL1.le hk.le).rules 7 Ac.enc_len default
  have hwi : IntKind.i64.wrap ((i : Int) + 1) = ((i + 1 : Nat) : Int) := by rw [w64 (by omega) (by omega)]; omega
  try simp (disch := first | omega | (simp only [PL]; omega)) only [PS, P1, P2, P3, P4, P5, P6, P7, P8, PA, PB, PC, Nat.reduceAdd, Nat.reduceSub, Nat.reduceMul, Nat.reduceLeDiff, Nat.reduceEqDiff, Nat.succ_ne_self, reduceCtorEq, Int.reduceToNat, Int.cast_ofNat_Int, Int.reduceEq, Int.reduceNe, Int.reduceLT, Int.reduceLE, R]
  refine i_cond (fun c3 => ?_) (fun c3 => ?_)
  rotate_left
  · try simp (disch := first | omega | (simp only [PL]; omega)) only [PS, P1, P2, P3, P4, P5, P6, P7, P8, PA, PB, PC, Nat.reduceAdd, Nat.reduceSub, Nat.reduceMul, Nat.reduceLeDiff, Nat.reduceEqDiff, Nat.succ_ne_self, reduceCtorEq, Int.reduceToNat, Int.cast_ofNat_Int, Int.reduceEq, Int.reduceNe, Int.reduceLT, Int.reduceLE]
    exact hK H (hle1.trans hk.le)
  have hi2 : i < L.length := by omega
  generalize hac : L.getD i default = ac at *
  try simp (disch := first | omega | (simp only [PL]; omega)) only [PS, P1, P2, P3, P4, P5, P6, P7, P8, PA, PB, PC, Nat.reduceAdd, Nat.reduceSub, Nat.reduceMul, Nat.reduceLeDiff, Nat.reduceEqDiff, Nat.succ_ne_self, reduceCtorEq, Int.reduceToNat, Int.cast_ofNat_Int, Int.reduceEq, Int.reduceNe, Int.reduceLT, Int.reduceLE, R, hac, Ac.enc]
  have hemp : ∀ H, Heap.le (fun _ => none) H := fun H x o hx => by cases hx
  refine i_meet_cond (fun env H' => ∃ gp gm now A, K2 h1 H' gp gm h1 ∧ PD gp p sz lt now A ∧ DM gm a sz lt now A ∧ now ≤ 1000 ∧ A.length ≤ i + 1 ∧ env = [some (.int .i64 sz), some (.int .i64 lt), some v, none, none, some (.pointer (some ⟨p, 0, none⟩)), none, some (.pointer (some ⟨a, 0, none⟩)), some (.int .i64 i), none, none, none, none, none, none, none, none, none, none, none, none, none, none, none, none, none, none, none, none, none, none, none, none, none, none, none, none, none, none, none, none, none, none]) ?_ ?_
  rotate_left
  · refine i_cond (fun c4 => ?_) (fun c4 => ?_)
    · try simp (disch := first | omega | (simp only [PL]; omega)) only [PS, P1, P2, P3, P4, P5, P6, P7, P8, PA, PB, PC, Nat.reduceAdd, Nat.reduceSub, Nat.reduceMul, Nat.reduceLeDiff, Nat.reduceEqDiff, Nat.succ_ne_self, reduceCtorEq, Int.reduceToNat, Int.cast_ofNat_Int, Int.reduceEq, Int.reduceNe, Int.reduceLT, Int.reduceLE]
      refine i_call H34 ⟨gp, p, ac.n, sz, lt, now, A, rfl, hP, hk.lt, by omega, by omega, by omega, hn, by omega, fun hbad => ?_, fun m hm hmn gp2 H2 x hS2 hP2 hO2 => ?_⟩
      · try simp (disch := first | omega | (simp only [PL]; omega)) only [PS, P1, P2, P3, P4, P5, P6, P7, P8, PA, PB, PC, Nat.reduceAdd, Nat.reduceSub, Nat.reduceMul, Nat.reduceLeDiff, Nat.reduceEqDiff, Nat.succ_ne_self, reduceCtorEq, Int.reduceToNat, Int.cast_ofNat_Int, Int.reduceEq, Int.reduceNe, Int.reduceLT, Int.reduceLE]
        refine i_call H35 ⟨gm, a, ac.n, sz, lt, now, A, rfl, hD, hk.lm, by omega, by omega, by omega, hn, by omega, fun _ => ?_, fun m hm hmn => by omega⟩
        try simp (disch := first | omega | (simp only [PL]; omega)) only [PS, P1, P2, P3, P4, P5, P6, P7, P8, PA, PB, PC, Nat.reduceAdd, Nat.reduceSub, Nat.reduceMul, Nat.reduceLeDiff, Nat.reduceEqDiff, Nat.succ_ne_self, reduceCtorEq, Int.reduceToNat, Int.cast_ofNat_Int, Int.reduceEq, Int.reduceNe, Int.reduceLT, Int.reduceLE]
        refine i_call H19 ⟨1, 1, rfl, ?_⟩
        rw [decide_eq_true rfl]
        try simp (disch := first | omega | (simp only [PL]; omega)) only [PS, P1, P2, P3, P4, P5, P6, P7, P8, PA, PB, PC, Nat.reduceAdd, Nat.reduceSub, Nat.reduceMul, Nat.reduceLeDiff, Nat.reduceEqDiff, Nat.succ_ne_self, reduceCtorEq, Int.reduceToNat, Int.cast_ofNat_Int, Int.reduceEq, Int.reduceNe, Int.reduceLT, Int.reduceLE]
        refine i_call H36 ⟨_, _, [], rfl, EpsR.nil, EpsR.nil, by simp, by simp, ?_⟩
        try simp (disch := first | omega | (simp only [PL]; omega)) only [PS, P1, P2, P3, P4, P5, P6, P7, P8, PA, PB, PC, Nat.reduceAdd, Nat.reduceSub, Nat.reduceMul, Nat.reduceLeDiff, Nat.reduceEqDiff, Nat.succ_ne_self, reduceCtorEq, Int.reduceToNat, Int.cast_ofNat_Int, Int.reduceEq, Int.reduceNe, Int.reduceLT, Int.reduceLE]
        exact k_meet _ (by try simp only [Pe, and_true, true_and, and_self]) ⟨gp, gm, now, A, hk, hP, hD, hn, by omega, rfl⟩
      · have hk2 := hk.stepT hS2
        try simp (disch := first | omega | (simp only [PL]; omega)) only [PS, P1, P2, P3, P4, P5, P6, P7, P8, PA, PB, PC, Nat.reduceAdd, Nat.reduceSub, Nat.reduceMul, Nat.reduceLeDiff, Nat.reduceEqDiff, Nat.succ_ne_self, reduceCtorEq, Int.reduceToNat, Int.cast_ofNat_Int, Int.reduceEq, Int.reduceNe, Int.reduceLT, Int.reduceLE]
        refine i_call H35 ⟨gm, a, ac.n, sz, lt, now, A, rfl, hD, hk2.lm, by omega, by omega, by omega, hn, by omega, fun hbad => by omega, fun m' hm' _ gm3 H3 y hS3 hD3 _ hO3 => ?_⟩
        obtain rfl : m = m' := by omega
        have hk3 := hk2.stepM hS3
        have hgr : Heap.le gm (rest gp H) := rest_disj hk.lm hk.dtm.sym
        have hO2' := (hO2.step (Gf' := fun _ => none) (H' := H3) (fun b o hb hn' => hS3.frame b o hb (le_none (join_l _ _) b hn' |> le_none hgr b)) fun _ _ _ => rfl).epsR
        try simp (disch := first | omega | (simp only [PL]; omega)) only [PS, P1, P2, P3, P4, P5, P6, P7, P8, PA, PB, PC, Nat.reduceAdd, Nat.reduceSub, Nat.reduceMul, Nat.reduceLeDiff, Nat.reduceEqDiff, Nat.succ_ne_self, reduceCtorEq, Int.reduceToNat, Int.cast_ofNat_Int, Int.reduceEq, Int.reduceNe, Int.reduceLT, Int.reduceLE]
        refine i_call H19 ⟨0, 0, rfl, ?_⟩
        rw [decide_eq_true rfl]
        have hcl := clos_le (size := sz) (late := lt) (now := now + m)
        try simp (disch := first | omega | (simp only [PL]; omega)) only [PS, P1, P2, P3, P4, P5, P6, P7, P8, PA, PB, PC, Nat.reduceAdd, Nat.reduceSub, Nat.reduceMul, Nat.reduceLeDiff, Nat.reduceEqDiff, Nat.succ_ne_self, reduceCtorEq, Int.reduceToNat, Int.cast_ofNat_Int, Int.reduceEq, Int.reduceNe, Int.reduceLT, Int.reduceLE]
        refine i_call H36 ⟨x, y, _, rfl, hO2', hO3.epsR, by simp [closE]; omega, fun e he => ?_, ?_⟩
        · unfold closE at he
          obtain ⟨k, _, rfl⟩ := List.mem_map.1 he
          unfold ofE
          rw [ofL_len]
          have := List.length_filter_le (fun s => decide (ep sz s = k)) A
          omega
        try simp (disch := first | omega | (simp only [PL]; omega)) only [PS, P1, P2, P3, P4, P5, P6, P7, P8, PA, PB, PC, Nat.reduceAdd, Nat.reduceSub, Nat.reduceMul, Nat.reduceLeDiff, Nat.reduceEqDiff, Nat.succ_ne_self, reduceCtorEq, Int.reduceToNat, Int.cast_ofNat_Int, Int.reduceEq, Int.reduceNe, Int.reduceLT, Int.reduceLE]
        exact k_meet _ (by try simp only [Pe, and_true, true_and, and_self]) ⟨gp2, gm3, now + m, A, hk3, hP2, hD3, hmn, by omega, rfl⟩
    · try simp (disch := first | omega | (simp only [PL]; omega)) only [PS, P1, P2, P3, P4, P5, P6, P7, P8, PA, PB, PC, Nat.reduceAdd, Nat.reduceSub, Nat.reduceMul, Nat.reduceLeDiff, Nat.reduceEqDiff, Nat.succ_ne_self, reduceCtorEq, Int.reduceToNat, Int.cast_ofNat_Int, Int.reduceEq, Int.reduceNe, Int.reduceLT, Int.reduceLE]
      refine i_call H37 ⟨gp, p, sz, lt, now, A, ac.x, rfl, hP, hk.lt, by omega, by omega, by omega, hn, by omega, fun hf => ?_, fun hf gp2 H2 hS2 hP2 => ?_⟩
      · refine i_lex (fun _ => none) (hemp _) ?_ (le_one (hemp _)) ?_
        · intro l' hl'
          simp only [List.mem_singleton] at hl'
          subst hl'
          exact ⟨true, rfl, fun _ => ⟨.v (aggS ac.x), by unfold aggS; try simp (disch := first | omega | (simp only [PL]; omega)) only [PS, P1, P2, P3, P4, P5, P6, P7, P8, PA, PB, PC, Nat.reduceAdd, Nat.reduceSub, Nat.reduceMul, Nat.reduceLeDiff, Nat.reduceEqDiff, Nat.succ_ne_self, reduceCtorEq, Int.reduceToNat, Int.cast_ofNat_Int, Int.reduceEq, Int.reduceNe, Int.reduceLT, Int.reduceLE]⟩⟩
        try simp (disch := first | omega | (simp only [PL]; omega)) only [PS, P1, P2, P3, P4, P5, P6, P7, P8, PA, PB, PC, Nat.reduceAdd, Nat.reduceSub, Nat.reduceMul, Nat.reduceLeDiff, Nat.reduceEqDiff, Nat.succ_ne_self, reduceCtorEq, Int.reduceToNat, Int.cast_ofNat_Int, Int.reduceEq, Int.reduceNe, Int.reduceLT, Int.reduceLE]
        refine i_call H38 ⟨gm, a, sz, lt, now, A, ac.x, rfl, hD, hk.lm, by omega, by omega, by omega, hn, by omega, fun _ => ?_, fun hf' => absurd hf' hf⟩
        try simp (disch := first | omega | (simp only [PL]; omega)) only [PS, P1, P2, P3, P4, P5, P6, P7, P8, PA, PB, PC, Nat.reduceAdd, Nat.reduceSub, Nat.reduceMul, Nat.reduceLeDiff, Nat.reduceEqDiff, Nat.succ_ne_self, reduceCtorEq, Int.reduceToNat, Int.cast_ofNat_Int, Int.reduceEq, Int.reduceNe, Int.reduceLT, Int.reduceLE]
        refine i_call H19 ⟨_, _, rfl, ?_⟩
        rw [decide_eq_true rfl]
        try simp (disch := first | omega | (simp only [PL]; omega)) only [PS, P1, P2, P3, P4, P5, P6, P7, P8, PA, PB, PC, Nat.reduceAdd, Nat.reduceSub, Nat.reduceMul, Nat.reduceLeDiff, Nat.reduceEqDiff, Nat.succ_ne_self, reduceCtorEq, Int.reduceToNat, Int.cast_ofNat_Int, Int.reduceEq, Int.reduceNe, Int.reduceLT, Int.reduceLE]
        exact k_meet _ (by try simp only [Pe, and_true, true_and, and_self]) ⟨gp, gm, now, A, hk, hP, hD, hn, by omega, rfl⟩
      · have hk2 := hk.stepT hS2
        refine i_lex (fun _ => none) (hemp _) ?_ (le_one (hemp _)) ?_
        · intro l' hl'
          simp only [List.mem_singleton] at hl'
          subst hl'
          exact ⟨true, rfl, fun _ => ⟨.v (aggS ac.x), by unfold aggS; try simp (disch := first | omega | (simp only [PL]; omega)) only [PS, P1, P2, P3, P4, P5, P6, P7, P8, PA, PB, PC, Nat.reduceAdd, Nat.reduceSub, Nat.reduceMul, Nat.reduceLeDiff, Nat.reduceEqDiff, Nat.succ_ne_self, reduceCtorEq, Int.reduceToNat, Int.cast_ofNat_Int, Int.reduceEq, Int.reduceNe, Int.reduceLT, Int.reduceLE]⟩⟩
        try simp (disch := first | omega | (simp only [PL]; omega)) only [PS, P1, P2, P3, P4, P5, P6, P7, P8, PA, PB, PC, Nat.reduceAdd, Nat.reduceSub, Nat.reduceMul, Nat.reduceLeDiff, Nat.reduceEqDiff, Nat.succ_ne_self, reduceCtorEq, Int.reduceToNat, Int.cast_ofNat_Int, Int.reduceEq, Int.reduceNe, Int.reduceLT, Int.reduceLE]
        refine i_call H38 ⟨gm, a, sz, lt, now, A, ac.x, rfl, hD, hk2.lm, by omega, by omega, by omega, hn, by omega, fun hf' => absurd hf hf', fun _ gm3 H3 hS3 hD3 => ?_⟩
        try simp (disch := first | omega | (simp only [PL]; omega)) only [PS, P1, P2, P3, P4, P5, P6, P7, P8, PA, PB, PC, Nat.reduceAdd, Nat.reduceSub, Nat.reduceMul, Nat.reduceLeDiff, Nat.reduceEqDiff, Nat.succ_ne_self, reduceCtorEq, Int.reduceToNat, Int.cast_ofNat_Int, Int.reduceEq, Int.reduceNe, Int.reduceLT, Int.reduceLE]
        refine i_call H19 ⟨0, 0, rfl, ?_⟩
        rw [decide_eq_true rfl]
        try simp (disch := first | omega | (simp only [PL]; omega)) only [PS, P1, P2, P3, P4, P5, P6, P7, P8, PA, PB, PC, Nat.reduceAdd, Nat.reduceSub, Nat.reduceMul, Nat.reduceLeDiff, Nat.reduceEqDiff, Nat.succ_ne_self, reduceCtorEq, Int.reduceToNat, Int.cast_ofNat_Int, Int.reduceEq, Int.reduceNe, Int.reduceLT, Int.reduceLE]
        exact k_meet _ (by try simp only [Pe, and_true, true_and, and_self]) ⟨gp2, gm3, now, A ++ [ac.x], hk2.stepM hS3, hP2, hD3, hn, by simp; omega, rfl⟩
  clear hk hP hD hn hA
  rintro env H ⟨gp, gm, now, A, hk, hP, hD, hn, hA, rfl⟩
  obtain ⟨av, hDp⟩ := id hD
  have hcell := (hDp.obj.le hk.lm).rules.1
  have d0 : H.cell ((⟨a, 0, none⟩ : Addr).add 0) = some (.int .i64 sz) := hcell 0 (by simp)
  have d1 : H.cell ((⟨a, 0, none⟩ : Addr).add 1) = some (.int .i64 lt) := hcell 1 (by simp)
  have d2 : H.cell ((⟨a, 0, none⟩ : Addr).add 2) = some (.int .i64 now) := hcell 2 (by simp)
  try simp (disch := first | omega | (simp only [PL]; omega)) only [PS, P1, P2, P3, P4, P5, P6, P7, P8, PA, PB, PC, Nat.reduceAdd, Nat.reduceSub, Nat.reduceMul, Nat.reduceLeDiff, Nat.reduceEqDiff, Nat.succ_ne_self, reduceCtorEq, Int.reduceToNat, Int.cast_ofNat_Int, Int.reduceEq, Int.reduceNe, Int.reduceLT, Int.reduceLE, d2]
  refine i_call H39 ⟨gp, p, sz, lt, now, A, rfl, hP, hk.lt, ?_⟩
  refine i_le (le_one (Heap.le.refl _)) ?_
  try simp (disch := first | omega | (simp only [PL]; omega)) only [PS, P1, P2, P3, P4, P5, P6, P7, P8, PA, PB, PC, Nat.reduceAdd, Nat.reduceSub, Nat.reduceMul, Nat.reduceLeDiff, Nat.reduceEqDiff, Nat.succ_ne_self, reduceCtorEq, Int.reduceToNat, Int.cast_ofNat_Int, Int.reduceEq, Int.reduceNe, Int.reduceLT, Int.reduceLE]
  refine i_call H40 ⟨gp, p, sz, lt, now, A, rfl, hP, hk.lt, ?_⟩
  try simp (disch := first | omega | (simp only [PL]; omega)) only [PS, P1, P2, P3, P4, P5, P6, P7, P8, PA, PB, PC, Nat.reduceAdd, Nat.reduceSub, Nat.reduceMul, Nat.reduceLeDiff, Nat.reduceEqDiff, Nat.succ_ne_self, reduceCtorEq, Int.reduceToNat, Int.cast_ofNat_Int, Int.reduceEq, Int.reduceNe, Int.reduceLT, Int.reduceLE]
  refine i_call H41 ⟨a, sz, lt, now, rfl, d0, d1, d2, by omega, by omega, by omega, hn, ?_⟩
  try simp (disch := first | omega | (simp only [PL]; omega)) only [PS, P1, P2, P3, P4, P5, P6, P7, P8, PA, PB, PC, Nat.reduceAdd, Nat.reduceSub, Nat.reduceMul, Nat.reduceLeDiff, Nat.reduceEqDiff, Nat.succ_ne_self, reduceCtorEq, Int.reduceToNat, Int.cast_ofNat_Int, Int.reduceEq, Int.reduceNe, Int.reduceLT, Int.reduceLE, hwi]
  exact k_loop (i + 1) (by omega) (by try simp only [Pe, and_true, true_and, and_self]) ⟨by omega, gp, gm, now, A, hk, hP, hD, hn, hA⟩
end Go.Cw
namespace Go.Cw
open Go

/-- two tracks and an Inside, held apart, beside what stays -/
structure K3 (h H gt gm gx F : Heap) : Prop where
  k : K2 h H gt gm F
  lx : Heap.le gx H
  dxt : disj gx gt
  dxm : disj gx gm
  dxF : disj gx F
section
variable {h H gt gm gx F H' g' : Heap}
theorem K3.more (k : K3 h H gt gm gx F) (hl : Heap.le H H') : K3 h H' gt gm gx F := ⟨k.k.more hl, k.lx.trans hl, k.dxt, k.dxm, k.dxF⟩
theorem K3.stepT (k : K3 h H gt gm gx F) (s : Step gt H g' H') : K3 h H' g' gm gx F :=
  let a := s.keep k.lx k.dxt; ⟨k.k.stepT s, a.1, a.2, k.dxm, k.dxF⟩
theorem K3.stepM (k : K3 h H gt gm gx F) (s : Step gm H g' H') : K3 h H' gt g' gx F :=
  let a := s.keep k.lx k.dxm; ⟨k.k.stepM s, a.1, k.dxt, a.2, k.dxF⟩
theorem K3.stepX (k : K3 h H gt gm gx F) (s : Step gx H g' H') : K3 h H' gt gm g' F :=
  let a := s.keep k.k.lt k.dxt.sym; let b := s.keep k.k.lm k.dxm.sym; let c := s.keep k.k.lF k.dxF.sym
  ⟨⟨k.k.hF, c.1, a.1, b.1, k.k.dtm, k.k.dtF, k.k.dmF⟩, s.le, a.2.sym, b.2.sym, c.2.sym⟩
theorem K3.freeze (k : K3 h H gt gm gx F) (hl : Heap.le H H') : K3 h H' gt gm gx (join F (fr H H')) :=
  ⟨k.k.freeze hl, k.lx.trans hl, k.dxt, k.dxm, disj_fr k.lx k.dxF⟩
end
end Go.Cw
namespace Go.Cw
open Go Go.Sort Go.Proofs

theorem ofL_perm {l m : List Si} (h : l.Perm m) : ofL l = ofL m := by
  obtain ⟨h1, h2⟩ := ofL_ord l
  obtain ⟨h3, h4⟩ := ofL_ord m
  exact ordS_uniq h1 h3 (h2.trans (h.trans h4.symm))
theorem closE_perm {size late a b : Nat} {A B : List Si} (h : A.Perm B) : closE size late a b A = closE size late a b B := by
  unfold closE ofE
  congr 1; funext k; rw [ofL_perm (h.filter _)]
/-- how many sights epochs ahead of one have -/
def tolE (size c : Nat) (A : List Si) : Nat := (A.filter fun s => decide (ep size s < c)).length
theorem tolE_succ (size c : Nat) (A : List Si) : tolE size (c + 1) A = tolE size c A + (ofE size A c).length := by
  unfold tolE ofE
  rw [ofL_len]
  induction A with
  | nil => rfl
  | cons s A ih =>
    by_cases h1 : ep size s < c
    · rw [List.filter_cons_of_pos (by simp; omega), List.filter_cons_of_pos (by simpa using h1), List.filter_cons_of_neg (by simp; omega), List.length_cons, List.length_cons, ih]; omega
    · by_cases h2 : ep size s = c
      · rw [List.filter_cons_of_pos (by simp; omega), List.filter_cons_of_neg (by simpa using h1), List.filter_cons_of_pos (by simpa using h2), List.length_cons, List.length_cons, ih]; omega
      · rw [List.filter_cons_of_neg (by simp; omega), List.filter_cons_of_neg (by simpa using h1), List.filter_cons_of_neg (by simpa using h2), ih]
theorem tolE_le (size c : Nat) (A : List Si) : tolE size c A ≤ A.length := List.length_filter_le _ _
theorem tolE_snoc {size c : Nat} {A : List Si} {s : Si} (h : c ≤ ep size s) : tolE size c (A ++ [s]) = tolE size c A := by
  unfold tolE
  rw [List.filter_append, List.length_append, List.filter_cons_of_neg (by simp; omega)]; simp
theorem adF_zero {size late now : Nat} {s : Si} (h : adF size late now s = 0) : 0 ≤ s.time ∧ clos size late now ≤ ep size s := by
  unfold adF at h
  split at h
  · cases h
  · rename_i hb
    split at h
    · cases h
    · unfold adBad at hb; omega
theorem Sl.sub {α : Type} {enc : α → List Value} {sz : Nat} (he : ∀ x, (enc x).length = sz) (d : α) {h : Heap} {v : Value} {A : List α} (hs : Sl enc h v A) {i j n : Nat} (hi : i < A.length) (hj : j + n ≤ sz) : h.row ((elt v (i * sz)).add j) n = some (((enc (A.getD i d)).drop j).take n).toArray := by
  have R := hs.rules sz he d
  have h5 := R.2.2.1 i hi
  obtain ⟨a, cap, rfl, _, hr⟩ := hs
  rcases hr with e | ⟨g, rfl, hrow⟩
  · rw [e] at hi; cases hi
  have hl : (A.flatMap enc).length = A.length * sz := flat_len he A
  have hm : (i + 1) * sz ≤ A.length * sz := Nat.mul_le_mul_right _ hi
  have hm2 : (i + 1) * sz = i * sz + sz := by rw [Nat.add_mul]; omega
  have e1 : elt (.slice (some g) A.length cap) (i * sz) = g.add (i * sz) := rfl
  rw [e1] at h5 ⊢
  rw [hrow.row (i := i * sz) (n := sz) (by omega)] at h5
  have h6 : ((A.flatMap enc).drop (i * sz)).take sz = enc (A.getD i d) := by
    have := congrArg Array.toList (Option.some.inj h5); simpa using this
  have e2 : (g.add (i * sz)).add j = g.add (i * sz + j) := by
    rw [addr_add' g hrow.1, addr_add' _ rfl, addr_add' g hrow.1, Nat.add_assoc]
  rw [e2, hrow.row (by omega), ← h6, List.drop_take, List.drop_drop, List.take_take]
  congr 4
  omega
structure StJ where
  i : Nat
  now : Nat
  A1 : List Si
  A2 : List Si
  W : List Si
  wv : Value
def S10 : Spec := fun args h K => ∃ size late v L, args = [.int .i64 size, .int .i64 late, v] ∧ Sl Ac.enc h v L ∧ ∀ h', Heap.le h h' → K (.bool true) h'
theorem F10_ok {N : Num} {Γ : Ctx} [GoodC Γ] (H33 : Sat (S33 N) (Γ 33)) (H34 : Sat (S34 N) (Γ 34)) (H36 : Sat S36 (Γ 36)) (H37 : Sat (S37 N) (Γ 37)) (H39 : Sat S39 (Γ 39)) (H40 : Sat S40 (Γ 40)) : Sat S10 (SF N Γ F10) := by
  rintro _ h K ⟨size, late, v, L, rfl, hL, hK⟩
  refine i_fun rfl ?_
  simp only [F10, env0, List.map, List.length, List.replicate, List.cons_append, List.nil_append, Nat.reduceSub, Nat.reduceAdd]
  have R := hL.rules 7 Ac.enc_len default
  by_cases hb : epBad size late
  · try simp (disch := first | omega | (simp only [PL]; omega)) only [PS, P1, P2, P3, P4, P5, P6, P7, P8, PA, PB, PC, Nat.reduceAdd, Nat.reduceSub, Nat.reduceMul, Nat.reduceLeDiff, Nat.reduceEqDiff, Nat.succ_ne_self, reduceCtorEq, Int.reduceToNat, Int.cast_ofNat_Int, Int.reduceEq, Int.reduceNe, Int.reduceLT, Int.reduceLE]
    refine i_call H33 ⟨size, late, rfl, fun _ => ?_, fun hn => absurd hb hn⟩
    try simp (disch := first | omega | (simp only [PL]; omega)) only [PS, P1, P2, P3, P4, P5, P6, P7, P8, PA, PB, PC, Nat.reduceAdd, Nat.reduceSub, Nat.reduceMul, Nat.reduceLeDiff, Nat.reduceEqDiff, Nat.succ_ne_self, reduceCtorEq, Int.reduceToNat, Int.cast_ofNat_Int, Int.reduceEq, Int.reduceNe, Int.reduceLT, Int.reduceLE, errV_succ]
    refine i_call H33 ⟨size, late, rfl, fun _ => ?_, fun hn => absurd hb hn⟩
    unfold epBad at hb
    have ht : (((size < 1 ∨ 50 < size) ∨ late < 0) ∨ 50 < late) = True := by rw [eq_iff_iff]; simp; omega
    try simp (disch := first | omega | (simp only [PL]; omega)) only [PS, P1, P2, P3, P4, P5, P6, P7, P8, PA, PB, PC, Nat.reduceAdd, Nat.reduceSub, Nat.reduceMul, Nat.reduceLeDiff, Nat.reduceEqDiff, Nat.succ_ne_self, reduceCtorEq, Int.reduceToNat, Int.cast_ofNat_Int, Int.reduceEq, Int.reduceNe, Int.reduceLT, Int.reduceLE, R, ht, errV_succ]
    exact hK h (Heap.le.refl h)
  try simp (disch := first | omega | (simp only [PL]; omega)) only [PS, P1, P2, P3, P4, P5, P6, P7, P8, PA, PB, PC, Nat.reduceAdd, Nat.reduceSub, Nat.reduceMul, Nat.reduceLeDiff, Nat.reduceEqDiff, Nat.succ_ne_self, reduceCtorEq, Int.reduceToNat, Int.cast_ofNat_Int, Int.reduceEq, Int.reduceNe, Int.reduceLT, Int.reduceLE]
  refine i_call H33 ⟨size, late, rfl, fun hb' => absurd hb' hb, fun _ p h1 hp hle1 hP => ?_⟩
  try simp (disch := first | omega | (simp only [PL]; omega)) only [PS, P1, P2, P3, P4, P5, P6, P7, P8, PA, PB, PC, Nat.reduceAdd, Nat.reduceSub, Nat.reduceMul, Nat.reduceLeDiff, Nat.reduceEqDiff, Nat.succ_ne_self, reduceCtorEq, Int.reduceToNat, Int.cast_ofNat_Int, Int.reduceEq, Int.reduceNe, Int.reduceLT, Int.reduceLE]
  refine i_call H33 ⟨size, late, rfl, fun hb' => absurd hb' hb, fun _ q h2 hq hle2 hQ => ?_⟩
  unfold epBad at hb
  obtain ⟨sz, rfl⟩ : ∃ n : Nat, size = n := ⟨size.toNat, by omega⟩
  obtain ⟨lt, rfl⟩ : ∃ n : Nat, late = n := ⟨late.toNat, by omega⟩
  rw [Int.toNat_natCast, Int.toNat_natCast] at hP hQ
  have R2 := (hL.le (hle1.trans hle2)).rules 7 Ac.enc_len default
  try simp (disch := first | omega | (simp only [PL]; omega)) only [PS, P1, P2, P3, P4, P5, P6, P7, P8, PA, PB, PC, Nat.reduceAdd, Nat.reduceSub, Nat.reduceMul, Nat.reduceLeDiff, Nat.reduceEqDiff, Nat.succ_ne_self, reduceCtorEq, Int.reduceToNat, Int.cast_ofNat_Int, Int.reduceEq, Int.reduceNe, Int.reduceLT, Int.reduceLE, R2]
  refine i_cond (fun c1 => ?_) (fun c1 => ?_)
  · have ht : ((((sz : Int) < 1 ∨ 50 < (sz : Int)) ∨ (lt : Int) < 0) ∨ 50 < (lt : Int)) = False := by rw [eq_iff_iff]; simp; omega
    have ht2 : ((80 : Int) < (L.length : Int)) = True := by rw [eq_iff_iff]; simp; omega
    try simp (disch := first | omega | (simp only [PL]; omega)) only [PS, P1, P2, P3, P4, P5, P6, P7, P8, PA, PB, PC, Nat.reduceAdd, Nat.reduceSub, Nat.reduceMul, Nat.reduceLeDiff, Nat.reduceEqDiff, Nat.succ_ne_self, reduceCtorEq, Int.reduceToNat, Int.cast_ofNat_Int, Int.reduceEq, Int.reduceNe, Int.reduceLT, Int.reduceLE, R2, ht, ht2]
    exact hK h2 (hle1.trans hle2)
  have hemp : ∀ H, Heap.le (fun _ => none) H := fun H x o hx => by cases hx
  have hk0 : K3 h h2 (fr h h1) (fr h1 h2) (fun _ => none) h := ⟨⟨Heap.le.refl h, hle1.trans hle2, (fr_le _ _).trans hle2, fr_le _ _, disj_frE (fr_le _ _), (disj_frE (Heap.le.refl h)).symm, (disj_frE hle1).symm⟩, hemp _, fun b hb => absurd rfl hb, fun b hb => absurd rfl hb, fun b hb => absurd rfl hb⟩
  try simp (disch := first | omega | (simp only [PL]; omega)) only [PS, P1, P2, P3, P4, P5, P6, P7, P8, PA, PB, PC, Nat.reduceAdd, Nat.reduceSub, Nat.reduceMul, Nat.reduceLeDiff, Nat.reduceEqDiff, Nat.succ_ne_self, reduceCtorEq, Int.reduceToNat, Int.cast_ofNat_Int, Int.reduceEq, Int.reduceNe, Int.reduceLT, Int.reduceLE]
  have cl0 : clos sz lt 0 = 0 := by simp [clos]
  refine i_loop (fun x : StJ => [some (.int .i64 sz), some (.int .i64 lt), some (v), none, some (.pointer (some ⟨p, 0, none⟩)), none, some (.pointer (some ⟨q, 0, none⟩)), none, some (x.wv), some (.int .i64 (x.A1.length : Nat)), some (.int .i64 (tolE sz (clos sz lt x.now) x.A1 : Nat)), some (.int .i64 (clos sz lt x.now : Nat)), some (.int .i64 (x.i : Nat)), none, none, none, none, none, none, none, none, none, none, none, none, none, none, none, none, none, none, none, none, none, none, none, none, none, none, none, none, none, none, none, none, none, none])
    (fun x H => x.i ≤ L.length + 1 ∧ x.now ≤ 1000 ∧ (x.i = L.length + 1 → x.now = 1000) ∧ x.A1.length ≤ x.i ∧ x.A1.Perm (x.A2 ++ x.W) ∧ (∀ s ∈ x.W, adF sz lt x.now s = 0) ∧ (∀ s ∈ x.A1, 0 ≤ s.time) ∧ ∃ g1 g2 gw, K3 h H g1 g2 gw h ∧ PD g1 p sz lt x.now x.A1 ∧ PD g2 q sz lt x.now x.A2 ∧ SlB Si.enc 4 gw x.wv x.W) (fun x => L.length + 1 - x.i) ⟨0, 0, [], [], [], .slice none 0 0⟩ (by dsimp only; rw [cl0]; try simp only [Pe, and_true, true_and, and_self]; simp [tolE]) ⟨by dsimp only; omega, by dsimp only; omega, by dsimp only; omega, by dsimp only; simp, by dsimp only; simp, by simp, by simp, _, _, _, hk0, hP, hQ, SlB.nil⟩ ?_
  clear hP hQ hk0 hle1 hle2 R2
  rintro ⟨i, now, A1, A2, W, wv⟩ H ⟨hi, hn, hin, hAi, hperm, hW, hpos, g1, g2, gw, hk, hP, hQ, hwv⟩
  dsimp only at hi hn hin hAi hperm hW hpos hP hQ hwv ⊢
  have hL80 : L.length ≤ 80 := by omega
  have RL := (hL.le hk.k.le).rules 7 Ac.enc_len default
  have hwi : IntKind.i64.wrap ((i : Int) + 1) = ((i + 1 : Nat) : Int) := by rw [w64 (by omega) (by omega)]; omega
  have htl := tolE_le sz (clos sz lt now) A1
  have hcn := clos_le (size := sz) (late := lt) (now := now)
  have hWA : W.length ≤ A1.length := by have := hperm.length_eq; simp at this; omega
  have hA2l : A2.length + W.length = A1.length := by have := hperm.length_eq; simp at this; omega
  try simp (disch := first | omega | (simp only [PL]; omega)) only [PS, P1, P2, P3, P4, P5, P6, P7, P8, PA, PB, PC, Nat.reduceAdd, Nat.reduceSub, Nat.reduceMul, Nat.reduceLeDiff, Nat.reduceEqDiff, Nat.succ_ne_self, reduceCtorEq, Int.reduceToNat, Int.cast_ofNat_Int, Int.reduceEq, Int.reduceNe, Int.reduceLT, Int.reduceLE, RL]
  refine i_cond (fun c2 => ?_) (fun c2 => ?_)
  rotate_left
  · have hi3 : i = L.length + 1 := by omega
    have hnow := hin hi3
    subst hnow
    try simp (disch := first | omega | (simp only [PL]; omega)) only [PS, P1, P2, P3, P4, P5, P6, P7, P8, PA, PB, PC, Nat.reduceAdd, Nat.reduceSub, Nat.reduceMul, Nat.reduceLeDiff, Nat.reduceEqDiff, Nat.succ_ne_self, reduceCtorEq, Int.reduceToNat, Int.cast_ofNat_Int, Int.reduceEq, Int.reduceNe, Int.reduceLT, Int.reduceLE]
    refine i_call H40 ⟨g1, p, sz, lt, 1000, A1, rfl, hP, hk.k.lt, ?_⟩
    have hq1 : IntKind.i64.wrap (1000 - (lt : Int)) = ((1000 - lt : Nat) : Int) := by rw [w64 (by omega) (by omega)]; omega
    have hq2 : Int.tdiv ((1000 - lt : Nat) : Int) (sz : Int) = (clos sz lt 1000 : Nat) := rfl
    have hq3 : IntKind.i64.wrap ((clos sz lt 1000 : Nat) : Int) = (clos sz lt 1000 : Nat) := w64 (by omega) (by omega)
    have hsz0 : ((sz : Int) = 0) = False := by rw [eq_iff_iff]; simp; omega
    try simp (disch := first | omega | (simp only [PL]; omega)) only [PS, P1, P2, P3, P4, P5, P6, P7, P8, PA, PB, PC, Nat.reduceAdd, Nat.reduceSub, Nat.reduceMul, Nat.reduceLeDiff, Nat.reduceEqDiff, Nat.succ_ne_self, reduceCtorEq, Int.reduceToNat, Int.cast_ofNat_Int, Int.reduceEq, Int.reduceNe, Int.reduceLT, Int.reduceLE, hq1, hq2, hq3, hsz0]
    rw [show decide (((tolE sz (clos sz lt 1000) A1 : Nat) : Int) ≤ (A1.length : Nat) ∧ ((clos sz lt 1000 : Nat) : Int) = max 0 ((clos sz lt 1000 : Nat) : Int)) = true from decide_eq_true (by omega)]
    exact hK H hk.k.le
  try simp (disch := first | omega | (simp only [PL]; omega)) only [PS, P1, P2, P3, P4, P5, P6, P7, P8, PA, PB, PC, Nat.reduceAdd, Nat.reduceSub, Nat.reduceMul, Nat.reduceLeDiff, Nat.reduceEqDiff, Nat.succ_ne_self, reduceCtorEq, Int.reduceToNat, Int.cast_ofNat_Int, Int.reduceEq, Int.reduceNe, Int.reduceLT, Int.reduceLE]
  refine i_call H39 ⟨g1, p, sz, lt, now, A1, rfl, hP, hk.k.lt, ?_⟩
  have hw0 : IntKind.i64.wrap (1000 - (now : Int)) = 1000 - (now : Int) := w64 (by omega) (by omega)
  try simp (disch := first | omega | (simp only [PL]; omega)) only [PS, P1, P2, P3, P4, P5, P6, P7, P8, PA, PB, PC, Nat.reduceAdd, Nat.reduceSub, Nat.reduceMul, Nat.reduceLeDiff, Nat.reduceEqDiff, Nat.succ_ne_self, reduceCtorEq, Int.reduceToNat, Int.cast_ofNat_Int, Int.reduceEq, Int.reduceNe, Int.reduceLT, Int.reduceLE, hw0, RL]
  refine i_meet_cond (fun env H' => H' = H ∧ ∃ n : Int, (i = L.length → n = 1000 - (now : Int)) ∧ env = [some (.int .i64 sz), some (.int .i64 lt), some (v), none, some (.pointer (some ⟨p, 0, none⟩)), none, some (.pointer (some ⟨q, 0, none⟩)), none, some (wv), some (.int .i64 (A1.length : Nat)), some (.int .i64 (tolE sz (clos sz lt now) A1 : Nat)), some (.int .i64 (clos sz lt now : Nat)), some (.int .i64 (i : Nat)), some (.int .i64 n), none, none, none, none, none, none, none, none, none, none, none, none, none, none, none, none, none, none, none, none, none, none, none, none, none, none, none, none, none, none, none, none, none]) ?_ ?_
  rotate_left
  · refine i_cond (fun c3 => ?_) (fun c3 => ?_)
    rotate_left
    · try simp (disch := first | omega | (simp only [PL]; omega)) only [PS, P1, P2, P3, P4, P5, P6, P7, P8, PA, PB, PC, Nat.reduceAdd, Nat.reduceSub, Nat.reduceMul, Nat.reduceLeDiff, Nat.reduceEqDiff, Nat.succ_ne_self, reduceCtorEq, Int.reduceToNat, Int.cast_ofNat_Int, Int.reduceEq, Int.reduceNe, Int.reduceLT, Int.reduceLE]
      exact k_meet _ (by try simp only [Pe, and_true, true_and, and_self]) ⟨rfl, 1000 - (now : Int), fun _ => rfl, rfl⟩
    have hi2 : i < L.length := by omega
    generalize hac : L.getD i default = ac at *
    try simp (disch := first | omega | (simp only [PL]; omega)) only [PS, P1, P2, P3, P4, P5, P6, P7, P8, PA, PB, PC, Nat.reduceAdd, Nat.reduceSub, Nat.reduceMul, Nat.reduceLeDiff, Nat.reduceEqDiff, Nat.succ_ne_self, reduceCtorEq, Int.reduceToNat, Int.cast_ofNat_Int, Int.reduceEq, Int.reduceNe, Int.reduceLT, Int.reduceLE, RL, hac, Ac.enc]
    refine i_cond (fun c4 => ?_) (fun c4 => ?_)
    rotate_left
    · try simp (disch := first | omega | (simp only [PL]; omega)) only [PS, P1, P2, P3, P4, P5, P6, P7, P8, PA, PB, PC, Nat.reduceAdd, Nat.reduceSub, Nat.reduceMul, Nat.reduceLeDiff, Nat.reduceEqDiff, Nat.succ_ne_self, reduceCtorEq, Int.reduceToNat, Int.cast_ofNat_Int, Int.reduceEq, Int.reduceNe, Int.reduceLT, Int.reduceLE, RL, hac, Ac.enc]
      exact k_meet _ (by try simp only [Pe, and_true, true_and, and_self]) ⟨rfl, ac.n, fun h => absurd h (by omega), rfl⟩
    have r4 := (hL.le hk.k.le).sub Ac.enc_len default hi2 (j := 3) (n := 4) (by omega)
    rw [hac] at r4
    try simp (disch := first | omega | (simp only [PL]; omega)) only [PS, P1, P2, P3, P4, P5, P6, P7, P8, PA, PB, PC, Nat.reduceAdd, Nat.reduceSub, Nat.reduceMul, Nat.reduceLeDiff, Nat.reduceEqDiff, Nat.succ_ne_self, reduceCtorEq, Int.reduceToNat, Int.cast_ofNat_Int, Int.reduceEq, Int.reduceNe, Int.reduceLT, Int.reduceLE, RL, hac, Ac.enc, r4]
    refine i_call H37 ⟨g1, p, sz, lt, now, A1, ac.x, rfl, hP, hk.k.lt, by omega, by omega, by omega, by omega, by omega, fun hf => ?_, fun hf g1' H2 hS2 hP2 => ?_⟩
    · obtain ⟨fk, hfk⟩ : ∃ k, adF sz lt now ac.x = k + 1 := ⟨adF sz lt now ac.x - 1, by omega⟩
      rw [hfk]
      try simp (disch := first | omega | (simp only [PL]; omega)) only [PS, P1, P2, P3, P4, P5, P6, P7, P8, PA, PB, PC, Nat.reduceAdd, Nat.reduceSub, Nat.reduceMul, Nat.reduceLeDiff, Nat.reduceEqDiff, Nat.succ_ne_self, reduceCtorEq, Int.reduceToNat, Int.cast_ofNat_Int, Int.reduceEq, Int.reduceNe, Int.reduceLT, Int.reduceLE, hwi, errV_succ]
      exact k_loop ⟨i + 1, now, A1, A2, W, wv⟩ (by dsimp only; omega) (by dsimp only; try simp only [Pe, and_true, true_and, and_self]) ⟨by dsimp only; omega, hn, fun h => by dsimp only at h; omega, by dsimp only; omega, hperm, hW, hpos, g1, g2, gw, hk, hP, hQ, hwv⟩
    obtain ⟨hf1, hf2⟩ := adF_zero hf
    have hk2 := hk.stepT hS2
    have RL2 := (hL.le hk2.k.le).rules 7 Ac.enc_len default
    have hwa : IntKind.i64.wrap ((A1.length : Int) + 1) = ((A1.length + 1 : Nat) : Int) := by rw [w64 (by omega) (by omega)]; omega
    have r42 := (hL.le hk2.k.le).sub Ac.enc_len default hi2 (j := 3) (n := 4) (by omega)
    rw [hac] at r42
    try simp (disch := first | omega | (simp only [PL]; omega)) only [PS, P1, P2, P3, P4, P5, P6, P7, P8, PA, PB, PC, Nat.reduceAdd, Nat.reduceSub, Nat.reduceMul, Nat.reduceLeDiff, Nat.reduceEqDiff, Nat.succ_ne_self, reduceCtorEq, Int.reduceToNat, Int.cast_ofNat_Int, Int.reduceEq, Int.reduceNe, Int.reduceLT, Int.reduceLE, hwa, RL2, hac, Ac.enc, r42]
    refine i_bslB Si.enc 4 Si.enc_len [ac.x] rfl rfl (by simp [maxLen]) fun x1 b1 H3 hle3 hb1 hx1 hS1 => ?_
    have O2 := hS1.one
    have O3 := hwv.one
    have hk3 := hk2.more hle3
    try simp (disch := first | omega | (simp only [PL]; omega)) only [PS, P1, P2, P3, P4, P5, P6, P7, P8, PA, PB, PC, Nat.reduceAdd, Nat.reduceSub, Nat.reduceMul, Nat.reduceLeDiff, Nat.reduceEqDiff, Nat.succ_ne_self, reduceCtorEq, Int.reduceToNat, Int.cast_ofNat_Int, Int.reduceEq, Int.reduceNe, Int.reduceLT, Int.reduceLE, O2.1, O2.2, O3.1, O3.2]
    refine i_appB (enc := Si.enc) (sz := 4) (g := gw) (l := W) (l' := [ac.x]) Si.enc_len (by simp [Si.enc, one]) hwv hk3.lx (SlB.sl Si.enc_len (hS1.le (fr_le _ _))) (by simp; omega) fun v2 H4 gw2 hwv2 St2 _ _ _ => ?_
    have hk4 := hk3.stepX St2
    have O4 := hwv2.one
    try simp (disch := first | omega | (simp only [PL]; omega)) only [PS, P1, P2, P3, P4, P5, P6, P7, P8, PA, PB, PC, Nat.reduceAdd, Nat.reduceSub, Nat.reduceMul, Nat.reduceLeDiff, Nat.reduceEqDiff, Nat.succ_ne_self, reduceCtorEq, Int.reduceToNat, Int.cast_ofNat_Int, Int.reduceEq, Int.reduceNe, Int.reduceLT, Int.reduceLE, O4.1, O4.2, hwi]
    refine k_loop ⟨i + 1, now, A1 ++ [ac.x], A2, W ++ [ac.x], v2⟩ (by dsimp only; omega) (by dsimp only; rw [tolE_snoc hf2]; try simp only [Pe, and_true, true_and, and_self]; simp) ⟨by dsimp only; omega, hn, fun h => by dsimp only at h; omega, by dsimp only; simp; omega, ?_, fun s hs => ?_, fun s hs => ?_, g1', g2, gw2, hk4, hP2, hQ, hwv2⟩
    · dsimp only
      rw [← List.append_assoc]; exact hperm.append_right _
    · dsimp only at hs
      rw [List.mem_append, List.mem_singleton] at hs
      rcases hs with hs | rfl
      · exact hW s hs
      · exact hf
    · dsimp only at hs
      rw [List.mem_append, List.mem_singleton] at hs
      rcases hs with hs | rfl
      · exact hpos s hs
      · exact hf1
  rintro env H' ⟨rfl, n, hn1, rfl⟩
  have RW := (SlB.sl Si.enc_len (hwv.le hk.lx)).rules 4 Si.enc_len default
  have hwl : IntKind.i64.wrap ((W.length : Int) - 1) = ((W.length : Nat) : Int) - 1 - (0 : Nat) := by rw [w64 (by omega) (by omega)]; omega
  try simp (disch := first | omega | (simp only [PL]; omega)) only [PS, P1, P2, P3, P4, P5, P6, P7, P8, PA, PB, PC, Nat.reduceAdd, Nat.reduceSub, Nat.reduceMul, Nat.reduceLeDiff, Nat.reduceEqDiff, Nat.succ_ne_self, reduceCtorEq, Int.reduceToNat, Int.cast_ofNat_Int, Int.reduceEq, Int.reduceNe, Int.reduceLT, Int.reduceLE, RW, hwl]
  refine i_meet_blk (fun env H' => ∃ g2, K3 h H' g1 g2 gw h ∧ PD g2 q sz lt now (A2 ++ W.reverse) ∧ env = [some (.int .i64 sz), some (.int .i64 lt), some (v), none, some (.pointer (some ⟨p, 0, none⟩)), none, some (.pointer (some ⟨q, 0, none⟩)), none, none, some (.int .i64 (A1.length : Nat)), some (.int .i64 (tolE sz (clos sz lt now) A1 : Nat)), some (.int .i64 (clos sz lt now : Nat)), some (.int .i64 (i : Nat)), some (.int .i64 n), none, none, none, none, none, none, none, none, none, none, none, none, none, none, none, none, none, none, none, none, none, none, none, none, none, none, none, none, none, none, none, none, none]) ?_ ?_
  rotate_left
  · refine i_loop (fun j : Nat => [some (.int .i64 sz), some (.int .i64 lt), some (v), none, some (.pointer (some ⟨p, 0, none⟩)), none, some (.pointer (some ⟨q, 0, none⟩)), none, some (wv), some (.int .i64 (A1.length : Nat)), some (.int .i64 (tolE sz (clos sz lt now) A1 : Nat)), some (.int .i64 (clos sz lt now : Nat)), some (.int .i64 (i : Nat)), some (.int .i64 n), some (.int .i64 ((W.length : Nat) - 1 - (j : Nat))), none, none, none, none, none, none, none, none, none, none, none, none, none, none, none, none, none, none, none, none, none, none, none, none, none, none, none, none, none, none, none, none])
      (fun j H' => j ≤ W.length ∧ ∃ g2, K3 h H' g1 g2 gw h ∧ PD g2 q sz lt now (A2 ++ (W.drop (W.length - j)).reverse)) (fun j => W.length - j) 0 (by try simp only [Pe, and_true, true_and, and_self]; simp) ⟨by omega, g2, hk, by simpa using hQ⟩ ?_
    clear hQ hk
    rintro j H' ⟨hj, g2, hk, hQ⟩
    have RW := (SlB.sl Si.enc_len (hwv.le hk.lx)).rules 4 Si.enc_len default
    have hwj : IntKind.i64.wrap ((W.length : Int) - 1 - (j : Nat) - 1) = ((W.length : Nat) : Int) - 1 - ((j + 1 : Nat) : Int) := by rw [w64 (by omega) (by omega)]; omega
    try simp (disch := first | omega | (simp only [PL]; omega)) only [PS, P1, P2, P3, P4, P5, P6, P7, P8, PA, PB, PC, Nat.reduceAdd, Nat.reduceSub, Nat.reduceMul, Nat.reduceLeDiff, Nat.reduceEqDiff, Nat.succ_ne_self, reduceCtorEq, Int.reduceToNat, Int.cast_ofNat_Int, Int.reduceEq, Int.reduceNe, Int.reduceLT, Int.reduceLE, RW]
    refine i_cond (fun c4 => ?_) (fun c4 => ?_)
    rotate_left
    · have : j = W.length := by omega
      subst this
      try simp (disch := first | omega | (simp only [PL]; omega)) only [PS, P1, P2, P3, P4, P5, P6, P7, P8, PA, PB, PC, Nat.reduceAdd, Nat.reduceSub, Nat.reduceMul, Nat.reduceLeDiff, Nat.reduceEqDiff, Nat.succ_ne_self, reduceCtorEq, Int.reduceToNat, Int.cast_ofNat_Int, Int.reduceEq, Int.reduceNe, Int.reduceLT, Int.reduceLE]
      exact k_meet _ (by try simp only [Pe, and_true, true_and, and_self]) ⟨g2, hk, by simpa using hQ, rfl⟩
    have hj2 : j < W.length := by omega
    have hjn : ((W.length : Nat) : Int) - 1 - (j : Nat) = ((W.length - 1 - j : Nat) : Int) := by omega
    generalize hwc : W.getD (W.length - 1 - j) default = ws at *
    have hws : ws ∈ W := by rw [← hwc]; exact getD_mem default (by omega)
    have hdrop : W.drop (W.length - (j + 1)) = ws :: W.drop (W.length - j) := by
      rw [show W.length - (j + 1) = W.length - 1 - j by omega, List.drop_eq_getElem_cons (by omega), show W.length - 1 - j + 1 = W.length - j by omega, ← hwc]
      congr 1
      rw [List.getD_eq_getElem?_getD, List.getElem?_eq_getElem (by omega)]; rfl
    rw [hjn] at hwj ⊢
    try simp (disch := first | omega | (simp only [PL]; omega)) only [PS, P1, P2, P3, P4, P5, P6, P7, P8, PA, PB, PC, Nat.reduceAdd, Nat.reduceSub, Nat.reduceMul, Nat.reduceLeDiff, Nat.reduceEqDiff, Nat.succ_ne_self, reduceCtorEq, Int.reduceToNat, Int.cast_ofNat_Int, Int.reduceEq, Int.reduceNe, Int.reduceLT, Int.reduceLE, RW, hwc, Si.enc]
    refine i_call H37 ⟨g2, q, sz, lt, now, _, ws, rfl, hQ, hk.k.lm, by omega, by omega, by omega, by omega, by simp; omega, fun hf => absurd (hW ws hws) hf, fun hf g2' H2 hS2 hQ2 => ?_⟩
    try simp (disch := first | omega | (simp only [PL]; omega)) only [PS, P1, P2, P3, P4, P5, P6, P7, P8, PA, PB, PC, Nat.reduceAdd, Nat.reduceSub, Nat.reduceMul, Nat.reduceLeDiff, Nat.reduceEqDiff, Nat.succ_ne_self, reduceCtorEq, Int.reduceToNat, Int.cast_ofNat_Int, Int.reduceEq, Int.reduceNe, Int.reduceLT, Int.reduceLE, hwj]
    exact k_loop (j + 1) (by omega) (by try simp only [Pe, and_true, true_and, and_self]) ⟨by omega, g2', hk.stepM hS2, by rw [hdrop, List.reverse_cons, ← List.append_assoc]; exact hQ2⟩
  clear hQ hk
  rintro env H' ⟨g2, hk, hQ, rfl⟩
  have hA2 : (A2 ++ W.reverse).Perm A1 := ((List.Perm.append_left A2 W.reverse_perm).trans hperm.symm)
  generalize A2 ++ W.reverse = B at *
  have hBl : B.length = A1.length := hA2.length_eq
  try simp (disch := first | omega | (simp only [PL]; omega)) only [PS, P1, P2, P3, P4, P5, P6, P7, P8, PA, PB, PC, Nat.reduceAdd, Nat.reduceSub, Nat.reduceMul, Nat.reduceLeDiff, Nat.reduceEqDiff, Nat.succ_ne_self, reduceCtorEq, Int.reduceToNat, Int.cast_ofNat_Int, Int.reduceEq, Int.reduceNe, Int.reduceLT, Int.reduceLE]
  refine i_call H34 ⟨g1, p, n, sz, lt, now, A1, rfl, hP, hk.k.lt, by omega, by omega, by omega, hn, by omega, fun hbad => ?_, fun m hm hmn g1' H2 x hS2 hP2 hO2 => ?_⟩
  · try simp (disch := first | omega | (simp only [PL]; omega)) only [PS, P1, P2, P3, P4, P5, P6, P7, P8, PA, PB, PC, Nat.reduceAdd, Nat.reduceSub, Nat.reduceMul, Nat.reduceLeDiff, Nat.reduceEqDiff, Nat.succ_ne_self, reduceCtorEq, Int.reduceToNat, Int.cast_ofNat_Int, Int.reduceEq, Int.reduceNe, Int.reduceLT, Int.reduceLE]
    refine i_call H34 ⟨g2, q, n, sz, lt, now, B, rfl, hQ, hk.k.lm, by omega, by omega, by omega, hn, by omega, fun _ => ?_, fun m hm hmn => by omega⟩
    try simp (disch := first | omega | (simp only [PL]; omega)) only [PS, P1, P2, P3, P4, P5, P6, P7, P8, PA, PB, PC, Nat.reduceAdd, Nat.reduceSub, Nat.reduceMul, Nat.reduceLeDiff, Nat.reduceEqDiff, Nat.succ_ne_self, reduceCtorEq, Int.reduceToNat, Int.cast_ofNat_Int, Int.reduceEq, Int.reduceNe, Int.reduceLT, Int.reduceLE, errV_succ]
    refine i_call H36 ⟨_, _, [], rfl, EpsR.nil, EpsR.nil, by simp, by simp, ?_⟩
    try simp (disch := first | omega | (simp only [PL]; omega)) only [PS, P1, P2, P3, P4, P5, P6, P7, P8, PA, PB, PC, Nat.reduceAdd, Nat.reduceSub, Nat.reduceMul, Nat.reduceLeDiff, Nat.reduceEqDiff, Nat.succ_ne_self, reduceCtorEq, Int.reduceToNat, Int.cast_ofNat_Int, Int.reduceEq, Int.reduceNe, Int.reduceLT, Int.reduceLE]
    refine i_loop (fun _ : Unit => [some (.int .i64 sz), some (.int .i64 lt), some (v), none, some (.pointer (some ⟨p, 0, none⟩)), none, some (.pointer (some ⟨q, 0, none⟩)), none, some (.slice none 0 0), some (.int .i64 (A1.length : Nat)), some (.int .i64 (tolE sz (clos sz lt now) A1 : Nat)), some (.int .i64 (clos sz lt now : Nat)), some (.int .i64 (i : Nat)), none, none, some (.slice none 0 0), none, none, none, some (.int .i64 0), none, none, none, none, none, none, none, none, none, none, none, none, none, none, none, none, none, none, none, none, none, none, none, none, none, none, none]) (fun _ H2 => H2 = H') (fun _ => 0) () (by try simp only [Pe, and_true, true_and, and_self]) rfl ?_
    rintro _ _ rfl
    try simp (disch := first | omega | (simp only [PL]; omega)) only [PS, P1, P2, P3, P4, P5, P6, P7, P8, PA, PB, PC, Nat.reduceAdd, Nat.reduceSub, Nat.reduceMul, Nat.reduceLeDiff, Nat.reduceEqDiff, Nat.succ_ne_self, reduceCtorEq, Int.reduceToNat, Int.cast_ofNat_Int, Int.reduceEq, Int.reduceNe, Int.reduceLT, Int.reduceLE, hwi]
    refine k_loop ⟨i + 1, now, A1, B, [], .slice none 0 0⟩ (by dsimp only; omega) (by dsimp only; try simp only [Pe, and_true, true_and, and_self]) ⟨by dsimp only; omega, hn, fun h => by dsimp only at h; omega, by dsimp only; omega, by simpa using hA2.symm, by simp, hpos, g1, g2, gw, hk, hP, hQ, SlB.nil⟩
  have hk2 := hk.stepT hS2
  try simp (disch := first | omega | (simp only [PL]; omega)) only [PS, P1, P2, P3, P4, P5, P6, P7, P8, PA, PB, PC, Nat.reduceAdd, Nat.reduceSub, Nat.reduceMul, Nat.reduceLeDiff, Nat.reduceEqDiff, Nat.succ_ne_self, reduceCtorEq, Int.reduceToNat, Int.cast_ofNat_Int, Int.reduceEq, Int.reduceNe, Int.reduceLT, Int.reduceLE]
  refine i_call H34 ⟨g2, q, n, sz, lt, now, B, rfl, hQ, hk2.k.lm, by omega, by omega, by omega, hn, by omega, fun hbad => by omega, fun m' hm' _ g2' H3 y hS3 hQ3 hO3 => ?_⟩
  obtain rfl : m = m' := by omega
  have hk3 := hk2.stepM hS3
  have hgr : Heap.le g2 (rest g1 H') := rest_disj hk.k.lm hk.k.dtm.sym
  have hO2' := (hO2.step (Gf' := fun _ => none) (H' := H3) (fun b o hb hn' => hS3.frame b o hb (le_none (join_l _ _) b hn' |> le_none hgr b)) fun _ _ _ => rfl).epsR
  have hcl := clos_le (size := sz) (late := lt) (now := now + m)
  have hO3' := hO3.epsR
  rw [closE_perm hA2] at hO3'
  have hlen : (closE sz lt now (now + m) A1).length = clos sz lt (now + m) - clos sz lt now := by simp [closE]
  have hcle : clos sz lt now ≤ clos sz lt (now + m) := Nat.div_le_div_right (by omega)
  have hofl : ∀ k, (ofE sz A1 k).length ≤ A1.length := by
    intro k
    unfold ofE
    rw [ofL_len]
    exact List.length_filter_le _ _
  clear hO2 hO3 hQ hP hk hk2 hS2 hS3
  try simp (disch := first | omega | (simp only [PL]; omega)) only [PS, P1, P2, P3, P4, P5, P6, P7, P8, PA, PB, PC, Nat.reduceAdd, Nat.reduceSub, Nat.reduceMul, Nat.reduceLeDiff, Nat.reduceEqDiff, Nat.succ_ne_self, reduceCtorEq, Int.reduceToNat, Int.cast_ofNat_Int, Int.reduceEq, Int.reduceNe, Int.reduceLT, Int.reduceLE]
  refine i_call H36 ⟨x, y, _, rfl, hO2', hO3', by omega, fun e he => ?_, ?_⟩
  · unfold closE at he
    obtain ⟨k, _, rfl⟩ := List.mem_map.1 he
    have := hofl k
    dsimp only; omega
  obtain ⟨es, hes, hel, hee⟩ := hO2'
  have RE := hes.rules 2 encEp_len default
  rw [hel, hlen] at RE
  try simp (disch := first | omega | (simp only [PL]; omega)) only [PS, P1, P2, P3, P4, P5, P6, P7, P8, PA, PB, PC, Nat.reduceAdd, Nat.reduceSub, Nat.reduceMul, Nat.reduceLeDiff, Nat.reduceEqDiff, Nat.succ_ne_self, reduceCtorEq, Int.reduceToNat, Int.cast_ofNat_Int, Int.reduceEq, Int.reduceNe, Int.reduceLT, Int.reduceLE]
  refine i_loop (fun k : Nat => [some (.int .i64 sz), some (.int .i64 lt), some (v), none, some (.pointer (some ⟨p, 0, none⟩)), none, some (.pointer (some ⟨q, 0, none⟩)), none, some (.slice none 0 0), some (.int .i64 (A1.length : Nat)), some (.int .i64 (tolE sz (clos sz lt now + k) A1 : Nat)), some (.int .i64 (clos sz lt now + k : Nat)), some (.int .i64 (i : Nat)), none, none, some (x), none, none, none, some (.int .i64 (k : Nat)), none, none, none, none, none, none, none, none, none, none, none, none, none, none, none, none, none, none, none, none, none, none, none, none, none, none, none]) (fun k H2 => H2 = H3 ∧ k ≤ clos sz lt (now + m) - clos sz lt now) (fun k => clos sz lt (now + m) - clos sz lt now - k) 0 (by try simp only [Pe, and_true, true_and, and_self]; simp) ⟨rfl, by omega⟩ ?_
  rintro k H4 ⟨rfl, hkk⟩
  have hwk : IntKind.i64.wrap ((k : Int) + 1) = ((k + 1 : Nat) : Int) := by rw [w64 (by omega) (by omega)]; omega
  have hwc : IntKind.i64.wrap (((clos sz lt now + k : Nat) : Int) + 1) = ((clos sz lt now + (k + 1) : Nat) : Int) := by rw [w64 (by omega) (by omega)]; omega
  try simp (disch := first | omega | (simp only [PL]; omega)) only [PS, P1, P2, P3, P4, P5, P6, P7, P8, PA, PB, PC, Nat.reduceAdd, Nat.reduceSub, Nat.reduceMul, Nat.reduceLeDiff, Nat.reduceEqDiff, Nat.succ_ne_self, reduceCtorEq, Int.reduceToNat, Int.cast_ofNat_Int, Int.reduceEq, Int.reduceNe, Int.reduceLT, Int.reduceLE, RE]
  refine i_cond (fun c5 => ?_) (fun c5 => ?_)
  rotate_left
  · have hke : clos sz lt now + k = clos sz lt (now + m) := by omega
    rw [hke]
    try simp (disch := first | omega | (simp only [PL]; omega)) only [PS, P1, P2, P3, P4, P5, P6, P7, P8, PA, PB, PC, Nat.reduceAdd, Nat.reduceSub, Nat.reduceMul, Nat.reduceLeDiff, Nat.reduceEqDiff, Nat.succ_ne_self, reduceCtorEq, Int.reduceToNat, Int.cast_ofNat_Int, Int.reduceEq, Int.reduceNe, Int.reduceLT, Int.reduceLE, hwi]
    refine k_loop ⟨i + 1, now + m, A1, B, [], .slice none 0 0⟩ (by dsimp only; omega) (by dsimp only; try simp only [Pe, and_true, true_and, and_self]) ⟨by dsimp only; omega, hmn, fun h => by dsimp only at h ⊢; have := hn1 (by omega); omega, by dsimp only; omega, by simpa using hA2.symm, by simp, hpos, g1', g2', gw, hk3, hP2, hQ3, SlB.nil⟩
  have hk2 : k < clos sz lt (now + m) - clos sz lt now := by omega
  obtain ⟨a1, a2⟩ := hee k (by rw [hlen]; exact hk2)
  have hget : (closE sz lt now (now + m) A1).getD k default = (clos sz lt now + k, ofE sz A1 (clos sz lt now + k)) := by
    unfold closE
    rw [List.getD_eq_getElem?_getD, List.getElem?_map, List.getElem?_range' hk2]; simp
  rw [hget] at a1 a2
  have RA := a2.rules 4 Si.enc_len default
  have hof := hofl (clos sz lt now + k)
  have hofm : ∀ s ∈ ofE sz A1 (clos sz lt now + k), 0 ≤ s.time ∧ ep sz s = clos sz lt now + k := by
    intro s hs
    have := (ofL_ord (A1.filter fun s => decide (ep sz s = clos sz lt now + k))).2.subset hs
    obtain ⟨q1, q2⟩ := List.mem_filter.1 this
    exact ⟨hpos s q1, of_decide_eq_true q2⟩
  have htot := tolE_succ sz (clos sz lt now + k) A1
  have htl2 := tolE_le sz (clos sz lt now + k) A1
  have hwt : IntKind.i64.wrap ((tolE sz (clos sz lt now + k) A1 : Nat) + ((ofE sz A1 (clos sz lt now + k)).length : Int)) = ((tolE sz (clos sz lt now + (k + 1)) A1 : Nat) : Int) := by rw [w64 (by omega) (by omega), ← Nat.add_assoc, htot]; omega
  have hep8 : clos sz lt now + k ≤ 1000 := by omega
  generalize hea : es.getD k default = ea at *
  dsimp only at a1 a2 RA
  generalize hEq : ofE sz A1 (clos sz lt now + k) = El at *
  try simp (disch := first | omega | (simp only [PL]; omega)) only [PS, P1, P2, P3, P4, P5, P6, P7, P8, PA, PB, PC, Nat.reduceAdd, Nat.reduceSub, Nat.reduceMul, Nat.reduceLeDiff, Nat.reduceEqDiff, Nat.succ_ne_self, reduceCtorEq, Int.reduceToNat, Int.cast_ofNat_Int, Int.reduceEq, Int.reduceNe, Int.reduceLT, Int.reduceLE, RE, encEp, hea, a1, RA, hwc, hwt]
  refine i_loop (fun j : Nat => [some (.int .i64 sz), some (.int .i64 lt), some (v), none, some (.pointer (some ⟨p, 0, none⟩)), none, some (.pointer (some ⟨q, 0, none⟩)), none, some (.slice none 0 0), some (.int .i64 (A1.length : Nat)), some (.int .i64 (tolE sz (clos sz lt now + (k + 1)) A1 : Nat)), some (.int .i64 (clos sz lt now + (k + 1) : Nat)), some (.int .i64 (i : Nat)), none, none, some (x), none, none, none, some (.int .i64 (k : Nat)), some (.int .i64 (j : Nat)), none, none, none, none, none, none, none, none, none, none, none, none, none, none, none, none, none, none, none, none, none, none, none, none, none, none]) (fun j H2 => H2 = H4 ∧ j ≤ El.length) (fun j => El.length - j) 0 (by try simp only [Pe, and_true, true_and, and_self]; simp) ⟨rfl, by omega⟩ ?_
  rintro j H5 ⟨rfl, hj⟩
  have hwj : IntKind.i64.wrap ((j : Int) + 1) = ((j + 1 : Nat) : Int) := by rw [w64 (by omega) (by omega)]; omega
  try simp (disch := first | omega | (simp only [PL]; omega)) only [PS, P1, P2, P3, P4, P5, P6, P7, P8, PA, PB, PC, Nat.reduceAdd, Nat.reduceSub, Nat.reduceMul, Nat.reduceLeDiff, Nat.reduceEqDiff, Nat.succ_ne_self, reduceCtorEq, Int.reduceToNat, Int.cast_ofNat_Int, Int.reduceEq, Int.reduceNe, Int.reduceLT, Int.reduceLE, RE, encEp, hea, a1, RA]
  refine i_cond (fun c6 => ?_) (fun c6 => ?_)
  rotate_left
  · try simp (disch := first | omega | (simp only [PL]; omega)) only [PS, P1, P2, P3, P4, P5, P6, P7, P8, PA, PB, PC, Nat.reduceAdd, Nat.reduceSub, Nat.reduceMul, Nat.reduceLeDiff, Nat.reduceEqDiff, Nat.succ_ne_self, reduceCtorEq, Int.reduceToNat, Int.cast_ofNat_Int, Int.reduceEq, Int.reduceNe, Int.reduceLT, Int.reduceLE, hwk]
    exact k_loop (k + 1) (by omega) (by try simp only [Pe, and_true, true_and, and_self]) ⟨rfl, by omega⟩
  have hj2 : j < El.length := by omega
  obtain ⟨hs1, hs2⟩ := hofm _ (getD_mem default hj2)
  generalize hsj : El.getD j default = sj at *
  obtain ⟨tn, htn⟩ : ∃ tn : Nat, sj.time = tn := ⟨sj.time.toNat, by omega⟩
  have hep : tn / sz = clos sz lt now + k := by rw [← hs2]; unfold ep; rw [htn, Int.toNat_natCast]
  have hq : Int.tdiv (tn : Int) (sz : Int) = ((clos sz lt now + k : Nat) : Int) := by rw [← hep]; rfl
  have hwq : IntKind.i64.wrap ((clos sz lt now + k : Nat) : Int) = ((clos sz lt now + k : Nat) : Int) := w64 (by omega) (by omega)
  have hsz0 : ((sz : Int) = 0) = False := by rw [eq_iff_iff]; simp; omega
  try simp (disch := first | omega | (simp only [PL]; omega)) only [PS, P1, P2, P3, P4, P5, P6, P7, P8, PA, PB, PC, Nat.reduceAdd, Nat.reduceSub, Nat.reduceMul, Nat.reduceLeDiff, Nat.reduceEqDiff, Nat.succ_ne_self, reduceCtorEq, Int.reduceToNat, Int.cast_ofNat_Int, Int.reduceEq, Int.reduceNe, Int.reduceLT, Int.reduceLE, RE, encEp, hea, a1, RA, hsj, Si.enc, htn, hq, hwq, hsz0, hwj]
  exact k_loop (j + 1) (by omega) (by try simp only [Pe, and_true, true_and, and_self]) ⟨rfl, by omega⟩
end Go.Cw
/- From a row's data to what lies in memory. -/
namespace Go.Cw
open Go

inductive Ty where
  | int | str | bool | nil
  | cons (a b : Ty)
  | sl (e : Ty)
  deriving DecidableEq
def Ty.size : Ty → Nat
  | .int | .str | .bool | .sl _ => 1
  | .nil => 0
  | .cons a b => a.size + b.size

/-- all that lies in memory -/
def full (w : World) : Heap := fun b => w.heap[b]?
theorem full_sub (w : World) : (full w).sub w := fun _ _ h => h

def Mat (w : World) : Ty → List Value → Prop
  | .int, cs => ∃ n, cs = [.int .i64 n] ∧ (Lit.int .i64 n).wf = true
  | .str, cs => ∃ s, cs = [.string s] ∧ s.size ≤ maxLen
  | .bool, cs => ∃ b, cs = [.bool b]
  | .nil, cs => cs = []
  | .cons a b, cs => ∃ x y, cs = x ++ y ∧ Mat w a x ∧ Mat w b y
  | .sl e, cs => ∃ a n cap, cs = [.slice a n cap] ∧ n ≤ cap ∧ cap ≤ maxLen ∧ (n = 0 ∨ ∃ g, a = some g ∧ ∃ rows : List (List Value), rows.length = n ∧ rowAt (full w) g rows.flatten ∧ ∀ r ∈ rows, Mat w e r)

def chkFs (P : Program) (chk : TypeId → Ty → Bool) : List Field → Nat → Ty → Bool
  | [], _, .nil => true
  | f :: r, off, .cons a b => f.offset == off && P.cellsOf f.type == a.size && chk f.type a && chkFs P chk r (off + a.size) b
  | _, _, _ => false
def chkAr (P : Program) (chk : TypeId → Ty → Bool) (e : TypeId) : Nat → Ty → Bool
  | 0, .nil => true
  | n + 1, .cons a b => P.cellsOf e == a.size && chk e a && chkAr P chk e n b
  | _, _ => false
/-- is a type laid so? -/
def chk (P : Program) : Nat → TypeId → Ty → Bool
  | 0, _, _ => false
  | n + 1, t, ty =>
    match P.underlying t with
    | some (.int .i64) => ty == .int
    | some .string => ty == .str
    | some .bool => ty == .bool
    | some (.slice e) =>
      match ty with
      | .sl x => P.cellsOf e == x.size && decide (0 < x.size) && chk P n e x
      | _ => false
    | some (.struct fs) => P.cellsOf t == ty.size && chkFs P (chk P n) fs.toList 0 ty
    | some (.array k e) => P.cellsOf t == ty.size && chkAr P (chk P n) e k ty
    | _ => false

theorem mapM_some {α β : Type} {f : α → Option β} : ∀ {l : List α} {r : List β}, l.mapM f = some r → r.length = l.length ∧ ∀ i (h : i < l.length) (h' : i < r.length), f l[i] = some r[i] := by
  intro l
  induction l with
  | nil => intro r h; simp at h; subst h; simp
  | cons a l ih =>
    intro r h
    simp only [List.mapM_cons, Option.bind_eq_bind, Option.bind_eq_some_iff, Option.pure_def, Option.some.injEq] at h
    obtain ⟨y, h1, ys, h2, rfl⟩ := h
    obtain ⟨h3, h4⟩ := ih h2
    refine ⟨by simp [h3], fun i hi hi' => ?_⟩
    cases i with
    | zero => simpa using h1
    | succ i => simpa using h4 i (by simpa using hi) (by simpa using hi')

theorem cells_row {w : World} {a : Addr} {n : Nat} {cs : List Value} (h : w.cells? 0 a n = some cs) (hn : 0 < n) : cs.length = n ∧ a.spot = none ∧ ∀ i (hi : i < cs.length), w.cell? (a.add i) = some cs[i] := by
  simp only [World.cells?, Nat.zero_le, if_true] at h
  obtain ⟨h1, h2⟩ := mapM_some h
  have hl : cs.length = n := by simpa using h1
  refine ⟨hl, ?_, fun i hi => ?_⟩
  · have h3 := h2 0 (by simpa using hn) (by omega)
    simp only [List.getElem_range, addr_zero] at h3
    exact World.cell?_spot h3
  · have := h2 i (by simpa using by omega) hi
    simpa using this

theorem row_of_cells {w : World} {a : Addr} {cs : List Value} (hs : a.spot = none) (h : ∀ i (hi : i < cs.length), w.cell? (a.add i) = some cs[i]) (hne : cs ≠ []) : rowAt (full w) a cs := by
  have hb : ∀ i (hi : i < cs.length), ∃ c t fz, w.heap[a.block]? = some (.cells c t fz) ∧ c[a.off + i]? = some cs[i] := by
    intro i hi
    have h1 := h i hi
    rw [addr_add' a hs] at h1
    simp only [World.cell?] at h1
    split at h1
    · rename_i c t fz hh; exact ⟨c, t, fz, hh, by simpa using h1⟩
    · cases h1
  have hl : 0 < cs.length := List.length_pos_iff.2 hne
  obtain ⟨c, t, fz, h1, _⟩ := hb 0 hl
  refine ⟨hs, c, t, fz, h1, ?_, ?_⟩
  · obtain ⟨c', t', fz', h2, h3⟩ := hb (cs.length - 1) (by omega)
    rw [h1] at h2; cases h2
    have := (Array.getElem?_eq_some_iff.1 h3).1
    omega
  · intro i hi
    obtain ⟨c', t', fz', h2, h3⟩ := hb i hi
    rw [h1] at h2; cases h2
    rw [h3, List.getElem?_eq_getElem hi]

variable {H : Type} {enc : TypeId × Value → H} {P : Program} {w : World}

theorem mat_size : ∀ (ty : Ty) (cs : List Value), Mat w ty cs → cs.length = ty.size := by
  intro ty
  induction ty with
  | int => rintro _ ⟨n, rfl, _⟩; rfl
  | str => rintro _ ⟨n, rfl, _⟩; rfl
  | bool => rintro _ ⟨n, rfl⟩; rfl
  | nil => rintro _ rfl; rfl
  | cons a b iha ihb => rintro _ ⟨x, y, rfl, h1, h2⟩; simp [iha _ h1, ihb _ h2, Ty.size]
  | sl e _ => rintro _ ⟨a, n, cap, rfl, _⟩; rfl

theorem mat_fs {n : Nat} (ih : ∀ (t : TypeId) (ty : Ty) (fuel : Nat) (cs : List Value) (x : DataW H × List MemPlace), chk P n t ty = true → DataW.trod enc P w 0 (fun _ => true) true fuel t cs = some x → Mat w ty cs) (fuel : Nat) (cs : List Value) :
    ∀ (fs : List Field) (off : Nat) (ty : Ty), chkFs P (chk P n) fs off ty = true → cs.length = off + ty.size →
      (∀ f ∈ fs, ∃ x, DataW.trod enc P w 0 (fun _ => true) true fuel f.type ((cs.drop f.offset).take (P.cellsOf f.type)) = some x) → Mat w ty (cs.drop off) := by
  intro fs
  induction fs with
  | nil =>
    intro off ty h1 h2 _
    cases ty <;> simp [chkFs] at h1
    simp only [Ty.size] at h2
    show cs.drop off = []
    exact List.drop_eq_nil_of_le (by omega)
  | cons f r ihr =>
    intro off ty h1 h2 h3
    cases ty with
    | cons a b =>
      simp only [chkFs, Bool.and_eq_true, beq_iff_eq] at h1
      obtain ⟨⟨⟨e1, e2⟩, e3⟩, e4⟩ := h1
      obtain ⟨y, h5⟩ := h3 f (by simp)
      simp only [Ty.size] at h2
      refine ⟨(cs.drop off).take a.size, cs.drop (off + a.size), ?_, ?_, ?_⟩
      · rw [← List.drop_drop, List.take_append_drop]
      · rw [e1, e2] at h5; exact ih _ _ _ _ _ e3 h5
      · exact ihr _ _ e4 (by omega) fun g hg => h3 g (by simp [hg])
    | _ => simp [chkFs] at h1

theorem mat_ar {n : Nat} (ih : ∀ (t : TypeId) (ty : Ty) (fuel : Nat) (cs : List Value) (x : DataW H × List MemPlace), chk P n t ty = true → DataW.trod enc P w 0 (fun _ => true) true fuel t cs = some x → Mat w ty cs) (fuel : Nat) (cs : List Value) (e : TypeId) :
    ∀ (k i : Nat) (ty : Ty), chkAr P (chk P n) e k ty = true → cs.length = i * P.cellsOf e + ty.size →
      (∀ j, j < k → ∃ x, DataW.trod enc P w 0 (fun _ => true) true fuel e ((cs.drop ((i + j) * P.cellsOf e)).take (P.cellsOf e)) = some x) → Mat w ty (cs.drop (i * P.cellsOf e)) := by
  intro k
  induction k with
  | zero =>
    intro i ty h1 h2 _
    cases ty <;> simp [chkAr] at h1
    simp only [Ty.size] at h2
    show cs.drop _ = []
    exact List.drop_eq_nil_of_le (by omega)
  | succ k ihk =>
    intro i ty h1 h2 h3
    cases ty with
    | cons a b =>
      simp only [chkAr, Bool.and_eq_true, beq_iff_eq] at h1
      obtain ⟨⟨e2, e3⟩, e4⟩ := h1
      simp only [Ty.size] at h2
      obtain ⟨x, h5⟩ := h3 0 (by omega)
      have e6 : i * P.cellsOf e + a.size = (i + 1) * P.cellsOf e := by rw [Nat.add_mul, e2]; omega
      refine ⟨(cs.drop (i * P.cellsOf e)).take a.size, cs.drop ((i + 1) * P.cellsOf e), ?_, ?_, ?_⟩
      · rw [← e6, ← List.drop_drop, List.take_append_drop]
      · rw [Nat.add_zero] at h5; rw [← e2]; exact ih _ _ _ _ _ e3 h5
      · refine ihk (i + 1) b e4 (by omega) fun j hj => ?_
        have := h3 (j + 1) (by omega)
        rwa [show i + (j + 1) = i + 1 + j by omega] at this
    | _ => simp [chkAr] at h1

theorem mat_of_trod : ∀ (n : Nat) (t : TypeId) (ty : Ty) (fuel : Nat) (cs : List Value) (x : DataW H × List MemPlace), chk P n t ty = true → DataW.trod enc P w 0 (fun _ => true) true fuel t cs = some x → Mat w ty cs := by
  intro n
  induction n with
  | zero => intro t ty fuel cs x h; simp [chk] at h
  | succ n ih =>
    intro t ty fuel cs x hc h
    cases fuel with
    | zero => simp [DataW.trod] at h
    | succ fuel =>
      simp only [chk] at hc
      split at hc
      · rename_i hu
        simp only [beq_iff_eq] at hc; subst hc
        obtain ⟨m, rfl, _, h1⟩ := DataW.trod_int hu h
        exact ⟨m, rfl, h1⟩
      · rename_i hu
        simp only [beq_iff_eq] at hc; subst hc
        obtain ⟨m, rfl, _, h1⟩ := DataW.trod_string hu h
        exact ⟨m, rfl, h1⟩
      · rename_i hu
        simp only [beq_iff_eq] at hc; subst hc
        obtain ⟨m, rfl, _⟩ := DataW.trod_bool hu h
        exact ⟨m, rfl⟩
      · rename_i e hu
        split at hc
        · rename_i y
          simp only [Bool.and_eq_true, beq_iff_eq, decide_eq_true_eq] at hc
          obtain ⟨⟨e1, e2⟩, e3⟩ := hc
          rcases DataW.trod_slice hu h with ⟨rfl, _⟩ | ⟨a, len, cap, elems, rest, m, _, rfl, _, _, hl, hm, hlen, hel, _⟩
          · exact ⟨none, 0, 0, rfl, Nat.le_refl _, Nat.zero_le _, .inl rfl⟩
          · refine ⟨some a, len, cap, rfl, hl, hm, ?_⟩
            by_cases h0 : len = 0
            · exact .inl h0
            · have key : ∀ i, i < len → ∃ r, w.cells? 0 (a.add (i * P.cellsOf e)) (P.cellsOf e) = some r ∧ Mat w y r := by
                intro i hi
                have h5 := hel i hi
                rw [List.getElem?_eq_getElem (by omega), Option.bind_eq_some_iff] at h5
                obtain ⟨r, h6, h7⟩ := h5
                exact ⟨r, h6, ih _ _ _ _ _ e3 h7⟩
              have h9' : a.spot = none := by
                obtain ⟨r, h6, h7⟩ := key 0 (by omega)
                obtain ⟨_, h9, _⟩ := cells_row h6 (by omega)
                rw [Nat.zero_mul, addr_zero] at h9
                exact h9
              have hrows : ∀ k, k ≤ len → ∃ rows : List (List Value), rows.length = k ∧ (∀ r ∈ rows, Mat w y r) ∧ rows.flatten.length = k * y.size ∧ ∀ i (hi : i < rows.flatten.length), w.cell? (a.add i) = some rows.flatten[i] := by
                intro k
                induction k with
                | zero => intro _; exact ⟨[], rfl, by simp, by simp, by simp⟩
                | succ k ihk =>
                  intro hk
                  obtain ⟨rows, r1, r2, r3, r4⟩ := ihk (by omega)
                  obtain ⟨r, h6, h7⟩ := key k (by omega)
                  obtain ⟨h8, h9, h10⟩ := cells_row h6 (by omega)
                  refine ⟨rows ++ [r], by simp [r1], ?_, ?_, ?_⟩
                  · intro x hx; simp at hx; rcases hx with hx | rfl
                    · exact r2 x hx
                    · exact h7
                  · simp [List.flatten_append, r3, h8, e1, Nat.add_mul]
                  · intro i hi
                    have e5 : (rows ++ [r]).flatten = rows.flatten ++ r := by simp
                    simp only [e5] at hi ⊢
                    by_cases hlt : i < rows.flatten.length
                    · rw [List.getElem_append_left hlt]; exact r4 i hlt
                    · rw [List.getElem_append_right (by omega)]
                      simp only [List.length_append] at hi
                      have := h10 (i - rows.flatten.length) (by omega)
                      rw [← this, addr_add' a h9', addr_add' a h9', addr_add' _ rfl]
                      congr 2
                      simp only
                      rw [r3, e1]; omega
              obtain ⟨rows, r1, r2, r3, r4⟩ := hrows len (Nat.le_refl _)
              have hne : rows.flatten ≠ [] := by
                intro h; rw [h] at r3
                have : 0 < len * y.size := Nat.mul_pos (by omega) e2
                simp at r3; omega
              exact .inr ⟨a, rfl, rows, r1, row_of_cells h9' r4 hne, r2⟩
        · cases hc
      · rename_i fs hu
        simp only [Bool.and_eq_true, beq_iff_eq] at hc
        obtain ⟨xs, m, h0, _, h1, h2, h3⟩ := DataW.trod_struct hu h
        have := mat_fs (enc := enc) ih m cs fs.toList 0 ty hc.2 (by omega) (by
          intro f hf
          obtain ⟨i, hi, rfl⟩ := List.getElem_of_mem hf
          have hi' : i < fs.size := by simpa using hi
          have h4 := h3 i fs[i] (by simp [hi'])
          rw [List.getElem?_eq_getElem (by omega)] at h4
          exact ⟨_, by simpa using h4⟩)
        simpa using this
      · rename_i k e hu
        simp only [Bool.and_eq_true, beq_iff_eq] at hc
        obtain ⟨xs, m, h0, _, h1, h2, h3⟩ := DataW.trod_array hu h
        have := mat_ar (enc := enc) ih m cs e k 0 ty hc.2 (by omega) (by
          intro j hj
          have h4 := h3 j hj
          rw [List.getElem?_eq_getElem (by omega)] at h4
          exact ⟨_, by simpa using h4⟩)
        simpa using this
      · cases hc
end Go.Cw
namespace Go.Cw
open Go Go.RowKit

/-- a slice of things that are laid so -/
theorem mat_sl {w : World} {α : Type} {enc : α → List Value} {ty : Ty} {Good : α → Prop} (hc : ∀ cs, Mat w ty cs → ∃ x, Good x ∧ cs = enc x) {v : Value} (hm : Mat w (.sl ty) [v]) :
    ∃ l : List α, Sl enc (full w) v l ∧ (∀ x ∈ l, Good x) ∧ l.length ≤ maxLen := by
  obtain ⟨a, n, cap, e, h1, h2, h3⟩ := hm
  simp only [List.cons.injEq, and_true] at e
  subst e
  rcases h3 with rfl | ⟨g, rfl, rows, h4, h5, h6⟩
  · exact ⟨[], ⟨a, cap, rfl, by simp, .inl rfl⟩, by simp, by simp⟩
  · have key : ∀ rows : List (List Value), (∀ r ∈ rows, Mat w ty r) → ∃ l : List α, rows.flatten = l.flatMap enc ∧ l.length = rows.length ∧ ∀ x ∈ l, Good x := by
      intro rows
      induction rows with
      | nil => intro _; exact ⟨[], rfl, rfl, by simp⟩
      | cons r rows ih =>
        intro hr
        obtain ⟨l, a1, a2, a3⟩ := ih fun r hr' => hr r (by simp [hr'])
        obtain ⟨x, b1, b2⟩ := hc r (hr r (by simp))
        exact ⟨x :: l, by simp [a1, b2], by simp [a2], by simp; exact ⟨b1, a3⟩⟩
    obtain ⟨l, a1, a2, a3⟩ := key rows h6
    refine ⟨l, ⟨some g, cap, by rw [a2, h4], by rw [a2, h4]; exact h1, .inr ⟨g, rfl, by rw [← a1]; exact h5⟩⟩, a3, by rw [a2, h4]; omega⟩

theorem mat_int {w : World} {b : Ty} {cs : List Value} (h : Mat w (.cons .int b) cs) : ∃ n r, cs = .int .i64 n :: r ∧ Mat w b r := by
  obtain ⟨x, y, rfl, ⟨n, rfl, _⟩, h2⟩ := h
  exact ⟨n, y, rfl, h2⟩
theorem mat_str {w : World} {b : Ty} {cs : List Value} (h : Mat w (.cons .str b) cs) : ∃ (s : List UInt8) (r : List Value), cs = .string (str s) :: r ∧ s.length ≤ maxLen ∧ Mat w b r := by
  obtain ⟨x, y, rfl, ⟨n, rfl, h1⟩, h2⟩ := h
  exact ⟨n.data.toList, y, by rw [str_of]; rfl, by simpa using h1, h2⟩
theorem mat_one {w : World} {a b : Ty} {cs : List Value} (h : Mat w (.cons (.sl a) b) cs) : ∃ v r, cs = v :: r ∧ Mat w (.sl a) [v] ∧ Mat w b r := by
  obtain ⟨x, y, rfl, h1, h2⟩ := h
  have h1' := h1
  obtain ⟨a', n, cap, rfl, _⟩ := h1
  exact ⟨_, y, rfl, h1', h2⟩

def rdTy : Ty := .cons .int (.cons .int (.cons .int (.cons .str .nil)))
/-- a value of one cell -/
theorem mat_cell {w : World} {v : Value} {a : Option Addr} {n c : Nat} {ty : Ty} (he : v = .slice a n c) (h : Mat w ty v.cells.toList) : Mat w ty [v] := by subst he; simpa [Value.cells] using h
/-- what is proved of a law, as the row wants it -/
theorem law_calls {P : Program} {N : Num} {k : Nat} {f : FuncId} {args : List Value} {w : World} (hf : N.fid k = f) {fn : Func} (hn : P.funcs[f]? = some fn) (hb : (fn.body.isNone || fn.name == "runtime.NumGoroutine") = false) (h : GF P N k args (full w) fun v h' => v = .bool true ∧ Heap.le (full w) h') :
    Calls P f args.toArray w fun e w' => e = .returned (.bool true) ∧ Below w.heap.size w w' := by
  subst hf
  simp only [Bool.or_eq_false_iff] at hb
  rcases h with h | h
  rotate_left
  · exfalso
    obtain ⟨v, h', w', h1, _⟩ := h w (full_sub w)
    have hn' : fn.name ≠ "runtime.NumGoroutine" := by simpa using hb.2
    obtain ⟨c, hc⟩ : ∃ c, fn.body = some c := by
      cases hh : fn.body with
      | none => rw [hh] at hb; simp at hb
      | some c => exact ⟨c, rfl⟩
    simp [callFunc, program, Sem.run, hn, hn', hc] at h1
  refine (h.2 w (full_sub w)).mono ?_
  rintro e w' ⟨v, h', rfl, ⟨rfl, hle⟩, hs⟩
  refine ⟨rfl, hs.os, hs.tape, hs.output, hs.size, fun b hb => ?_⟩
  have h1 : full w b = some w.heap[b] := by simp [full, hb]
  rw [hs.sub b _ (hle b _ h1)]
  simp [hb]
end Go.Cw
