/- Part 4 of the proof of RuleSays: a small language for the program's functions, its soundness, and what the functions do. No conditions beyond the theorems' own. -/
import Derived.Test.YthhepmakjimhlaaDoorCw3
set_option linter.unusedSimpArgs false
set_option linter.unusedVariables false
namespace Go.Cw
open Go
def S108 (N : Num) : Spec := fun args h K => ∃ t : Tg, args = [aggT t] ∧ ∀ h', Heap.le h h' → K (errV N (faultT t)) h'
theorem F108_ok {N : Num} {Γ : Ctx} [GoodC Γ] (H107 : Sat S107 (Γ 107)) (H117 : Sat S117 (Γ 117)) : Sat (S108 N) (SF N Γ F108) := by
  rintro _ h K ⟨t, rfl, hK⟩
  have hK1 : t.bad → ∀ h', Heap.le h h' → K (.iface (N.tid 111) (.int .i64 1)) h' := fun hb h' hl => by have := hK h' hl; rw [fault_bad hb, errV_succ] at this; exact this
  have hK0 : ¬ t.bad → ∀ h', Heap.le h h' → K .nilIface h' := fun hb h' hl => by have := hK h' hl; rw [fault_ok hb] at this; exact this
  clear hK
  refine i_fun rfl ?_
  simp only [F108, env0, List.map, List.length, List.replicate, List.cons_append, List.nil_append, Nat.reduceSub, Nat.reduceAdd, aggT]
  have hsome := fun a => Tg.bad_some (t := t) (a := a)
  try simp (disch := first | omega | (simp only [PL]; omega)) only [PS, P1, P2, P3, P4, P5, P6, P7, P8, PA, PB, PC, Nat.reduceAdd, Nat.reduceSub, Nat.reduceMul, Nat.reduceLeDiff, Nat.reduceEqDiff, Nat.succ_ne_self, reduceCtorEq, Int.reduceToNat, Int.cast_ofNat_Int, Int.reduceEq, Int.reduceNe, Int.reduceLT, Int.reduceLE]
  refine i_cond (fun c1 => ?_) (fun c1 => ?_)
  · try simp (disch := first | omega | (simp only [PL]; omega)) only [PS, P1, P2, P3, P4, P5, P6, P7, P8, PA, PB, PC, Nat.reduceAdd, Nat.reduceSub, Nat.reduceMul, Nat.reduceLeDiff, Nat.reduceEqDiff, Nat.succ_ne_self, reduceCtorEq, Int.reduceToNat, Int.cast_ofNat_Int, Int.reduceEq, Int.reduceNe, Int.reduceLT, Int.reduceLE]
    refine hK1 ?_ h (Heap.le.refl h)
    cases hp : partsOf t.part with
    | none => exact Tg.bad_none hp
    | some a => exact (hsome a hp).2 (by omega)
  try simp (disch := first | omega | (simp only [PL]; omega)) only [PS, P1, P2, P3, P4, P5, P6, P7, P8, PA, PB, PC, Nat.reduceAdd, Nat.reduceSub, Nat.reduceMul, Nat.reduceLeDiff, Nat.reduceEqDiff, Nat.succ_ne_self, reduceCtorEq, Int.reduceToNat, Int.cast_ofNat_Int, Int.reduceEq, Int.reduceNe, Int.reduceLT, Int.reduceLE]
  refine i_call H107 ⟨t.part, rfl, fun h1 hle1 => ?_⟩
  cases hp : partsOf t.part with
  | none =>
    simp only [paV, hp, Option.elim]
    try simp (disch := first | omega | (simp only [PL]; omega)) only [PS, P1, P2, P3, P4, P5, P6, P7, P8, PA, PB, PC, Nat.reduceAdd, Nat.reduceSub, Nat.reduceMul, Nat.reduceLeDiff, Nat.reduceEqDiff, Nat.succ_ne_self, reduceCtorEq, Int.reduceToNat, Int.cast_ofNat_Int, Int.reduceEq, Int.reduceNe, Int.reduceLT, Int.reduceLE]
    refine i_le (le_one (Heap.le.refl _)) ?_
    try simp (disch := first | omega | (simp only [PL]; omega)) only [PS, P1, P2, P3, P4, P5, P6, P7, P8, PA, PB, PC, Nat.reduceAdd, Nat.reduceSub, Nat.reduceMul, Nat.reduceLeDiff, Nat.reduceEqDiff, Nat.succ_ne_self, reduceCtorEq, Int.reduceToNat, Int.cast_ofNat_Int, Int.reduceEq, Int.reduceNe, Int.reduceLT, Int.reduceLE]
    refine i_le (le_two (Heap.le.refl _) (Heap.le.refl _)) ?_
    try simp (disch := first | omega | (simp only [PL]; omega)) only [PS, P1, P2, P3, P4, P5, P6, P7, P8, PA, PB, PC, Nat.reduceAdd, Nat.reduceSub, Nat.reduceMul, Nat.reduceLeDiff, Nat.reduceEqDiff, Nat.succ_ne_self, reduceCtorEq, Int.reduceToNat, Int.cast_ofNat_Int, Int.reduceEq, Int.reduceNe, Int.reduceLT, Int.reduceLE]
    exact hK1 (Tg.bad_none hp) h1 hle1
  | some a =>
    have hbad := hsome a hp
    have hpa := partsOf_some hp
    have hp18 : a.cd ≤ 18 ∧ a.rd ≤ 18 := by omega
    simp only [paV, hp, Option.elim, Pa.enc]
    by_cases hc0 : t.company < 0
    · have hc1 : (t.company < 0) = True := by simpa using hc0
      try simp (disch := first | omega | (simp only [PL]; omega)) only [PS, P1, P2, P3, P4, P5, P6, P7, P8, PA, PB, PC, Nat.reduceAdd, Nat.reduceSub, Nat.reduceMul, Nat.reduceLeDiff, Nat.reduceEqDiff, Nat.succ_ne_self, reduceCtorEq, Int.reduceToNat, Int.cast_ofNat_Int, Int.reduceEq, Int.reduceNe, Int.reduceLT, Int.reduceLE, hc1]
      refine i_le (le_one (Heap.le.refl _)) ?_
      try simp (disch := first | omega | (simp only [PL]; omega)) only [PS, P1, P2, P3, P4, P5, P6, P7, P8, PA, PB, PC, Nat.reduceAdd, Nat.reduceSub, Nat.reduceMul, Nat.reduceLeDiff, Nat.reduceEqDiff, Nat.succ_ne_self, reduceCtorEq, Int.reduceToNat, Int.cast_ofNat_Int, Int.reduceEq, Int.reduceNe, Int.reduceLT, Int.reduceLE]
      refine i_le (le_two (Heap.le.refl _) (Heap.le.refl _)) ?_
      try simp (disch := first | omega | (simp only [PL]; omega)) only [PS, P1, P2, P3, P4, P5, P6, P7, P8, PA, PB, PC, Nat.reduceAdd, Nat.reduceSub, Nat.reduceMul, Nat.reduceLeDiff, Nat.reduceEqDiff, Nat.succ_ne_self, reduceCtorEq, Int.reduceToNat, Int.cast_ofNat_Int, Int.reduceEq, Int.reduceNe, Int.reduceLT, Int.reduceLE]
      exact hK1 (hbad.2 (by omega)) h1 hle1
    · have hc1 : (t.company < 0) = False := by simpa using hc0
      try simp (disch := first | omega | (simp only [PL]; omega)) only [PS, P1, P2, P3, P4, P5, P6, P7, P8, PA, PB, PC, Nat.reduceAdd, Nat.reduceSub, Nat.reduceMul, Nat.reduceLeDiff, Nat.reduceEqDiff, Nat.succ_ne_self, reduceCtorEq, Int.reduceToNat, Int.cast_ofNat_Int, Int.reduceEq, Int.reduceNe, Int.reduceLT, Int.reduceLE, hc1]
      refine i_call H117 ⟨a.cd, rfl, hp18.1, ?_⟩
      refine i_le (le_one (Heap.le.refl _)) ?_
      by_cases hb3 : ((10 ^ a.cd : Nat) : Int) ≤ t.company ∨ t.ref < 0
      · have hcond : (((10 ^ a.cd : Nat) : Int) ≤ t.company ∨ t.ref < 0) = True := by simpa using hb3
        try simp (disch := first | omega | (simp only [PL]; omega)) only [PS, P1, P2, P3, P4, P5, P6, P7, P8, PA, PB, PC, Nat.reduceAdd, Nat.reduceSub, Nat.reduceMul, Nat.reduceLeDiff, Nat.reduceEqDiff, Nat.succ_ne_self, reduceCtorEq, Int.reduceToNat, Int.cast_ofNat_Int, Int.reduceEq, Int.reduceNe, Int.reduceLT, Int.reduceLE, hcond]
        refine i_le (le_two (Heap.le.refl _) (Heap.le.refl _)) ?_
        try simp (disch := first | omega | (simp only [PL]; omega)) only [PS, P1, P2, P3, P4, P5, P6, P7, P8, PA, PB, PC, Nat.reduceAdd, Nat.reduceSub, Nat.reduceMul, Nat.reduceLeDiff, Nat.reduceEqDiff, Nat.succ_ne_self, reduceCtorEq, Int.reduceToNat, Int.cast_ofNat_Int, Int.reduceEq, Int.reduceNe, Int.reduceLT, Int.reduceLE]
        exact hK1 (hbad.2 (by omega)) h1 hle1
      · have hcond : (((10 ^ a.cd : Nat) : Int) ≤ t.company ∨ t.ref < 0) = False := by simpa using hb3
        try simp (disch := first | omega | (simp only [PL]; omega)) only [PS, P1, P2, P3, P4, P5, P6, P7, P8, PA, PB, PC, Nat.reduceAdd, Nat.reduceSub, Nat.reduceMul, Nat.reduceLeDiff, Nat.reduceEqDiff, Nat.succ_ne_self, reduceCtorEq, Int.reduceToNat, Int.cast_ofNat_Int, Int.reduceEq, Int.reduceNe, Int.reduceLT, Int.reduceLE, hcond]
        refine i_call H117 ⟨a.rd, rfl, hp18.2, ?_⟩
        refine i_le (le_two (Heap.le.refl _) (Heap.le.refl _)) ?_
        try simp (disch := first | omega | (simp only [PL]; omega)) only [PS, P1, P2, P3, P4, P5, P6, P7, P8, PA, PB, PC, Nat.reduceAdd, Nat.reduceSub, Nat.reduceMul, Nat.reduceLeDiff, Nat.reduceEqDiff, Nat.succ_ne_self, reduceCtorEq, Int.reduceToNat, Int.cast_ofNat_Int, Int.reduceEq, Int.reduceNe, Int.reduceLT, Int.reduceLE]
        refine i_cond (fun c2 => ?_) (fun c2 => ?_)
        · try simp (disch := first | omega | (simp only [PL]; omega)) only [PS, P1, P2, P3, P4, P5, P6, P7, P8, PA, PB, PC, Nat.reduceAdd, Nat.reduceSub, Nat.reduceMul, Nat.reduceLeDiff, Nat.reduceEqDiff, Nat.succ_ne_self, reduceCtorEq, Int.reduceToNat, Int.cast_ofNat_Int, Int.reduceEq, Int.reduceNe, Int.reduceLT, Int.reduceLE]
          exact hK1 (hbad.2 (by omega)) h1 hle1
        · try simp (disch := first | omega | (simp only [PL]; omega)) only [PS, P1, P2, P3, P4, P5, P6, P7, P8, PA, PB, PC, Nat.reduceAdd, Nat.reduceSub, Nat.reduceMul, Nat.reduceLeDiff, Nat.reduceEqDiff, Nat.succ_ne_self, reduceCtorEq, Int.reduceToNat, Int.cast_ofNat_Int, Int.reduceEq, Int.reduceNe, Int.reduceLT, Int.reduceLE]
          exact hK0 (fun h => by have := hbad.1 h; omega) h1 hle1
end Go.Cw
namespace Go.Cw
open Go
theorem shr_nat (k k' : IntKind) (x s : Nat) (hs : s ≤ k.bits) : binV .shr (.int k (x : Int)) (.int k' (s : Int)) = some (.int k ((x / 2 ^ s : Nat) : Int)) := by
  simp only [binV, shiftV]
  rw [if_neg (by omega), Int.toNat_natCast, show Nat.min s k.bits = s from Nat.min_eq_left hs]
  have h1 : (x : Int).fdiv (2 ^ s) = ((x / 2 ^ s : Nat) : Int) := by
    rw [Int.fdiv_eq_ediv_of_nonneg _ (Int.le_of_lt (Int.pow_pos (by omega)))]
    simp
  rw [h1]
theorem wrap_u64 (n : Nat) (h : n < 2 ^ 64) : IntKind.u64.wrap (n : Int) = (n : Int) := by
  simp only [IntKind.wrap, IntKind.bits, IntKind.signed]
  simp; omega
theorem shl_nat (k' : IntKind) (x s : Nat) (hs : s ≤ 64) (hx : x * 2 ^ s < 2 ^ 64) : binV .shl (.int .u64 (x : Int)) (.int k' (s : Int)) = some (.int .u64 ((x * 2 ^ s : Nat) : Int)) := by
  simp only [binV, shiftV]
  rw [if_neg (by omega), Int.toNat_natCast, show Nat.min s IntKind.u64.bits = s from Nat.min_eq_left hs]
  have h1 : (x : Int) * 2 ^ s = ((x * 2 ^ s : Nat) : Int) := by simp
  rw [h1, wrap_u64 _ hx]
theorem bits_nat (n x : Nat) (h : x < 2 ^ n) : (BitVec.ofInt n (x : Int)).toNat = x := by
  simp [Nat.mod_eq_of_lt h]
theorem and_u64 (x y : Nat) (hx : x < 2 ^ 64) (hy : y < 2 ^ 64) : binV .and (.int .u64 (x : Int)) (.int .u64 (y : Int)) = some (.int .u64 ((x &&& y : Nat) : Int)) := by
  have hb : (BitVec.ofInt IntKind.u64.bits (x : Int) &&& BitVec.ofInt IntKind.u64.bits (y : Int)).toNat = x &&& y := by rw [BitVec.toNat_and, bits_nat IntKind.u64.bits x hx, bits_nat IntKind.u64.bits y hy]
  simp only [binV, intV, if_true]
  rw [hb, wrap_u64 _ (Nat.lt_of_le_of_lt Nat.and_le_left hx)]
theorem or_u64 (x y : Nat) (hx : x < 2 ^ 64) (hy : y < 2 ^ 64) : binV .or (.int .u64 (x : Int)) (.int .u64 (y : Int)) = some (.int .u64 ((x ||| y : Nat) : Int)) := by
  have hb : (BitVec.ofInt IntKind.u64.bits (x : Int) ||| BitVec.ofInt IntKind.u64.bits (y : Int)).toNat = x ||| y := by rw [BitVec.toNat_or, bits_nat IntKind.u64.bits x hx, bits_nat IntKind.u64.bits y hy]
  simp only [binV, intV, if_true]
  rw [hb, wrap_u64 _ (Nat.or_lt_two_pow hx hy)]
theorem and_u8 (x y : Nat) (hx : x < 2 ^ 8) (hy : y < 2 ^ 8) : binV .and (.int .u8 (x : Int)) (.int .u8 (y : Int)) = some (.int .u8 ((x &&& y : Nat) : Int)) := by
  have hb : (BitVec.ofInt IntKind.u8.bits (x : Int) &&& BitVec.ofInt IntKind.u8.bits (y : Int)).toNat = x &&& y := by rw [BitVec.toNat_and, bits_nat IntKind.u8.bits x hx, bits_nat IntKind.u8.bits y hy]
  simp only [binV, intV, if_true]
  have : x &&& y < 2 ^ 8 := Nat.lt_of_le_of_lt Nat.and_le_left hx
  rw [hb, w8', show ((x &&& y : Nat) : Int) % 256 = ((x &&& y : Nat) : Int) from by omega]
def but (b : Nat) (h h' : Heap) : Prop := ∀ x, x ≠ b → h' x = h x
theorem but.le {b : Nat} {h0 h h' : Heap} (hl : Heap.le h0 h) (hn : h0 b = none) (hb : but b h h') : Heap.le h0 h' := by
  intro x o hx
  have : x ≠ b := by intro e; subst e; rw [hn] at hx; cases hx
  rw [hb x this]; exact hl x o hx
theorem but.cell {b : Nat} {h h' : Heap} (hb : but b h h') {a : Addr} (ha : a.block ≠ b) : h'.cell a = h.cell a := by
  simp only [Heap.cell, Heap.cells, hb _ ha]
def S127 : Spec := fun args h K => ∃ bb ba b, ∃ at_ many : Nat, args = [.int .i64 many, .pointer (some ⟨bb, 0, none⟩), .pointer (some ⟨ba, 0, none⟩)] ∧ h.cell ⟨bb, 0, none⟩ = some (.string (str b)) ∧ objAt h ⟨ba, 0, none⟩ [.int .i64 at_] ∧ bb ≠ ba ∧ b.length = 8 ∧ at_ + many ≤ 64 ∧ many ≤ 30 ∧
  ∀ h', but ba h h' → objAt h' ⟨ba, 0, none⟩ [.int .i64 (at_ + many : Nat)] → K (.int .i64 (rdBits b at_ many : Nat)) h'
theorem rdBits_lt (b : List UInt8) (at_ : Nat) : ∀ k, rdBits b at_ k < 2 ^ k := by
  intro k
  induction k with
  | zero => simp [rdBits]
  | succ k ih => rw [rdBits, Nat.pow_succ]; have : bitAt b (at_ + k) < 2 := Nat.mod_lt _ (by omega); omega
theorem F127_ok {N : Num} {Γ : Ctx} [GoodC Γ] : Sat S127 (SF N Γ F127) := by
  rintro _ h K ⟨bb, ba, b, at_, many, rfl, hb, hat, hne, hlen, hm, hm30, hK⟩
  refine i_fun rfl ?_
  simp only [F127, env0, List.map, List.length, List.replicate, List.cons_append, List.nil_append, Nat.reduceSub, Nat.reduceAdd]
  try simp (disch := first | omega | (simp only [PL]; omega)) only [PS, P1, P2, P3, P4, P5, P6, P7, P8, PA, PB, PC, Nat.reduceAdd, Nat.reduceSub, Nat.reduceMul, Nat.reduceLeDiff, Nat.reduceEqDiff, Nat.succ_ne_self, reduceCtorEq, Int.reduceToNat, Int.cast_ofNat_Int, Int.reduceEq, Int.reduceNe, Int.reduceLT, Int.reduceLE]
  refine i_loop (fun i : Nat => [some (.int .i64 many), some (.pointer (some ⟨bb, 0, none⟩)), some (.pointer (some ⟨ba, 0, none⟩)), some (.int .i64 0), some (.int .i64 (rdBits b at_ i : Nat)), some (.int .i64 i), none])
    (fun i h1 => i ≤ many ∧ but ba h h1 ∧ objAt h1 ⟨ba, 0, none⟩ [.int .i64 (at_ + i : Nat)]) (fun i => many - i) 0 (by try simp only [Pe, and_true, true_and, and_self]; exact ⟨rfl, rfl⟩) ⟨by omega, fun _ _ => rfl, hat⟩ ?_
  rintro i h1 ⟨hi, hbut, ho⟩
  have hb1 : h1.cell ⟨bb, 0, none⟩ = some (.string (str b)) := (hbut.cell hne).trans hb
  have ha1 : h1.cell ⟨ba, 0, none⟩ = some (.int .i64 (at_ + i : Nat)) := ho.rules.2.1 (by simp)
  try simp (disch := first | omega | (simp only [PL]; omega)) only [PS, P1, P2, P3, P4, P5, P6, P7, P8, PA, PB, PC, Nat.reduceAdd, Nat.reduceSub, Nat.reduceMul, Nat.reduceLeDiff, Nat.reduceEqDiff, Nat.succ_ne_self, reduceCtorEq, Int.reduceToNat, Int.cast_ofNat_Int, Int.reduceEq, Int.reduceNe, Int.reduceLT, Int.reduceLE]
  refine i_cond (fun c1 => ?_) (fun c1 => ?_)
  rotate_left
  · have : i = many := by omega
    subst this
    try simp (disch := first | omega | (simp only [PL]; omega)) only [PS, P1, P2, P3, P4, P5, P6, P7, P8, PA, PB, PC, Nat.reduceAdd, Nat.reduceSub, Nat.reduceMul, Nat.reduceLeDiff, Nat.reduceEqDiff, Nat.succ_ne_self, reduceCtorEq, Int.reduceToNat, Int.cast_ofNat_Int, Int.reduceEq, Int.reduceNe, Int.reduceLT, Int.reduceLE]
    exact hK h1 hbut ho
  have hq : IntKind.i64.wrap (((at_ + i : Nat) : Int).tdiv 8) = (((at_ + i) / 8 : Nat) : Int) := by
    rw [show ((at_ + i : Nat) : Int).tdiv 8 = (((at_ + i) / 8 : Nat) : Int) from by rw [Int.tdiv_eq_ediv_of_nonneg (by omega)]; omega, w64 (by omega) (by omega)]
  have hr : IntKind.i64.wrap (((at_ + i : Nat) : Int).tmod 8) = (((at_ + i) % 8 : Nat) : Int) := by
    rw [show ((at_ + i : Nat) : Int).tmod 8 = (((at_ + i) % 8 : Nat) : Int) from by rw [Int.tmod_eq_emod_of_nonneg (by omega)]; omega, w64 (by omega) (by omega)]
  have hr' : ((at_ + i : Nat) : Int).tmod 8 = (((at_ + i) % 8 : Nat) : Int) := by rw [Int.tmod_eq_emod_of_nonneg (by omega)]; omega
  have hw7 : IntKind.i64.wrap (7 - (((at_ + i) % 8 : Nat) : Int)) = ((7 - (at_ + i) % 8 : Nat) : Int) := by rw [w64 (by omega) (by omega)]; omega
  have hbyte := (b.getD ((at_ + i) / 8) 0).toNat_lt
  have hsh := shr_nat .u8 .i64 (b.getD ((at_ + i) / 8) 0).toNat (7 - (at_ + i) % 8) (by simp [IntKind.bits]; omega)
  have hdl : (b.getD ((at_ + i) / 8) 0).toNat / 2 ^ (7 - (at_ + i) % 8) < 256 := Nat.lt_of_le_of_lt (Nat.div_le_self _ _) (by omega)
  have han := and_u8 ((b.getD ((at_ + i) / 8) 0).toNat / 2 ^ (7 - (at_ + i) % 8)) 1 (by omega) (by omega)
  rw [Nat.and_one_is_mod] at han
  have hand : binV .and (.int .u8 (((b.getD ((at_ + i) / 8) 0).toNat / 2 ^ (7 - (at_ + i) % 8) : Nat) : Int)) (.int .u8 1) = some (.int .u8 ((bitAt b (at_ + i) : Nat) : Int)) := han
  have hbl : bitAt b (at_ + i) < 2 := Nat.mod_lt _ (by omega)
  have hrl : rdBits b at_ i < 1073741824 := Nat.lt_of_lt_of_le (rdBits_lt b at_ i) (Nat.pow_le_pow_right (n := 2) (by omega) (show i ≤ 30 by omega))
  try simp (disch := first | omega | (simp only [PL]; omega)) only [PS, P1, P2, P3, P4, P5, P6, P7, P8, PA, PB, PC, Nat.reduceAdd, Nat.reduceSub, Nat.reduceMul, Nat.reduceLeDiff, Nat.reduceEqDiff, Nat.succ_ne_self, reduceCtorEq, Int.reduceToNat, Int.cast_ofNat_Int, Int.reduceEq, Int.reduceNe, Int.reduceLT, Int.reduceLE, hb1, ha1, hq, hr, hr', hw7, hsh, hand]
  refine i_st ho 0 1 rfl rfl (by omega) (by simp) fun o hob _ => ?_
  have hob2 : objAt (h1.set ba o) ⟨ba, 0, none⟩ [.int .i64 (at_ + i + 1 : Nat)] := hob h1 rfl
  try simp (disch := first | omega | (simp only [PL]; omega)) only [PS, P1, P2, P3, P4, P5, P6, P7, P8, PA, PB, PC, Nat.reduceAdd, Nat.reduceSub, Nat.reduceMul, Nat.reduceLeDiff, Nat.reduceEqDiff, Nat.succ_ne_self, reduceCtorEq, Int.reduceToNat, Int.cast_ofNat_Int, Int.reduceEq, Int.reduceNe, Int.reduceLT, Int.reduceLE]
  refine k_loop (i + 1) (by omega) (by try simp only [Pe, and_true, true_and, and_self]; rfl) ⟨by omega, fun x hx => ?_, hob2⟩
  rw [Heap.set_ne hx]; exact hbut x hx
end Go.Cw
namespace Go.Cw
open Go
def tgV (b : List UInt8) : Value := aggT ((tagOf b).getD Tg.zero)
def S110 : Spec := fun args h K => ∃ b, args = [.string (str b)] ∧ ∀ h', Heap.le h h' → K (.tuple #[tgV b, .bool (tagOf b).isSome]) h'
theorem but.obj {b : Nat} {h h' : Heap} (hb : but b h h') {a : Addr} {cs : List Value} (ha : a.block ≠ b) (ho : objAt h a cs) : objAt h' a cs := by
  obtain ⟨h1, c, t, h2, h3⟩ := ho
  exact ⟨h1, c, t, by rw [hb _ ha]; exact h2, h3⟩
theorem objAt.nn {g : Heap} {a : Addr} {cs : List Value} (h : objAt g a cs) : g a.block ≠ none := by
  obtain ⟨_, c, t, h1, _⟩ := h; rw [h1]; simp
theorem F110_ok {N : Num} {Γ : Ctx} [GoodC Γ] (H127 : Sat S127 (Γ 127)) (H79 : Sat S79 (Γ 79)) (H128 : Sat S128 (Γ 128)) : Sat S110 (SF N Γ F110) := by
  rintro _ h K ⟨b, rfl, hK⟩
  refine i_fun rfl ?_
  simp only [F110, env0, List.map, List.length, List.replicate, List.cons_append, List.nil_append, Nat.reduceSub, Nat.reduceAdd]
  try simp (disch := first | omega | (simp only [PL]; omega)) only [PS, P1, P2, P3, P4, P5, P6, P7, P8, PA, PB, PC, Nat.reduceAdd, Nat.reduceSub, Nat.reduceMul, Nat.reduceLeDiff, Nat.reduceEqDiff, Nat.succ_ne_self, reduceCtorEq, Int.reduceToNat, Int.cast_ofNat_Int, Int.reduceEq, Int.reduceNe, Int.reduceLT, Int.reduceLE]
  refine i_newO fun b1 h1 hle1 hb1 ho1' => ?_
  have ho1 : objAt (fr h h1) ⟨b1, 0, none⟩ [.string (str b)] := ho1'
  have B1 : h1.cell ⟨b1, 0, none⟩ = some (.string (str b)) := (ho1.le (fr_le _ _)).rules.2.1 (by simp)
  unfold tgV tagOf at hK
  try simp (disch := first | omega | (simp only [PL]; omega)) only [PS, P1, P2, P3, P4, P5, P6, P7, P8, PA, PB, PC, Nat.reduceAdd, Nat.reduceSub, Nat.reduceMul, Nat.reduceLeDiff, Nat.reduceEqDiff, Nat.succ_ne_self, reduceCtorEq, Int.reduceToNat, Int.cast_ofNat_Int, Int.reduceEq, Int.reduceNe, Int.reduceLT, Int.reduceLE, B1]
  by_cases hlen : b.length = 8
  rotate_left
  · have hl : ((b.length : Int) ≠ 8) = True := by rw [eq_iff_iff]; simp; omega
    rw [if_pos hlen] at hK
    simp only [Option.getD, Option.isSome, Tg.zero, aggT] at hK
    try simp (disch := first | omega | (simp only [PL]; omega)) only [PS, P1, P2, P3, P4, P5, P6, P7, P8, PA, PB, PC, Nat.reduceAdd, Nat.reduceSub, Nat.reduceMul, Nat.reduceLeDiff, Nat.reduceEqDiff, Nat.succ_ne_self, reduceCtorEq, Int.reduceToNat, Int.cast_ofNat_Int, Int.reduceEq, Int.reduceNe, Int.reduceLT, Int.reduceLE, hl]
    exact hK h1 hle1
  have hl : ((b.length : Int) ≠ 8) = False := by rw [eq_iff_iff]; simp; omega
  rw [if_neg (by omega)] at hK
  try simp (disch := first | omega | (simp only [PL]; omega)) only [PS, P1, P2, P3, P4, P5, P6, P7, P8, PA, PB, PC, Nat.reduceAdd, Nat.reduceSub, Nat.reduceMul, Nat.reduceLeDiff, Nat.reduceEqDiff, Nat.succ_ne_self, reduceCtorEq, Int.reduceToNat, Int.cast_ofNat_Int, Int.reduceEq, Int.reduceNe, Int.reduceLT, Int.reduceLE, hl]
  refine i_newO fun b4 h2 hle2 hb4 ho4 => ?_
  try simp (disch := first | omega | (simp only [PL]; omega)) only [PS, P1, P2, P3, P4, P5, P6, P7, P8, PA, PB, PC, Nat.reduceAdd, Nat.reduceSub, Nat.reduceMul, Nat.reduceLeDiff, Nat.reduceEqDiff, Nat.succ_ne_self, reduceCtorEq, Int.reduceToNat, Int.cast_ofNat_Int, Int.reduceEq, Int.reduceNe, Int.reduceLT, Int.reduceLE]
  refine i_st (ho4.le (fr_le _ _)) 0 1 rfl rfl (by omega) (Nat.le_refl 1) fun o hob _ => ?_
  have hob4 : objAt (h2.set b4 o) ⟨b4, 0, none⟩ [.int .i64 (0 : Nat)] := hob h2 rfl
  have hne : b1 ≠ b4 := by
    rintro rfl
    exact objAt.nn ((ho1.le (fr_le h h1)).le (Heap.le.refl h1)) hb4
  have hb4h : h b4 = none := le_none hle1 b4 hb4
  have hle3 : Heap.le h (h2.set b4 o) := but.le (b := b4) (hle1.trans hle2) hb4h fun x hx => Heap.set_ne hx
  have hob1 : objAt (h2.set b4 o) ⟨b1, 0, none⟩ [.string (str b)] := but.obj (b := b4) (fun x hx => Heap.set_ne hx) hne ((ho1.le (fr_le _ _)).le hle2)
  generalize h2.set b4 o = h3 at *
  have hnum : ∀ at_ k, at_ + k ≤ 64 → rdBits b at_ k = num b / 2 ^ (64 - at_ - k) % 2 ^ k := fun at_ k hk => rdBits_num hlen at_ k hk
  have hnlt := num_lt b
  rw [hlen] at hnlt
  try simp (disch := first | omega | (simp only [PL]; omega)) only [PS, P1, P2, P3, P4, P5, P6, P7, P8, PA, PB, PC, Nat.reduceAdd, Nat.reduceSub, Nat.reduceMul, Nat.reduceLeDiff, Nat.reduceEqDiff, Nat.succ_ne_self, reduceCtorEq, Int.reduceToNat, Int.cast_ofNat_Int, Int.reduceEq, Int.reduceNe, Int.reduceLT, Int.reduceLE]
  refine i_cal H127 ⟨b1, b4, b, 0, 8, rfl, hob1.rules.2.1 (by simp), hob4, hne, hlen, by omega, by omega, fun h4 hbut4 hob4' => ?_⟩
  have hle4 := hbut4.le hle3 hb4h
  have hob1' := hbut4.obj hne hob1
  have e1 : rdBits b 0 8 = num b / 2 ^ 56 := by rw [hnum 0 8 (by omega)]; exact Nat.mod_eq_of_lt (by omega)
  have hk47 : IntKind.i64.wrap (((num b / 2 ^ 56 : Nat) : Int) - 47) = ((num b / 2 ^ 56 : Nat) : Int) - 47 := by rw [w64 (by omega) (by omega)]
  rw [e1]
  try simp (disch := first | omega | (simp only [PL]; omega)) only [PS, P1, P2, P3, P4, P5, P6, P7, P8, PA, PB, PC, Nat.reduceAdd, Nat.reduceSub, Nat.reduceMul, Nat.reduceLeDiff, Nat.reduceEqDiff, Nat.succ_ne_self, reduceCtorEq, Int.reduceToNat, Int.cast_ofNat_Int, Int.reduceEq, Int.reduceNe, Int.reduceLT, Int.reduceLE, hk47]
  refine i_cal H127 ⟨b1, b4, b, 8, 3, rfl, hob1'.rules.2.1 (by simp), hob4', hne, hlen, by omega, by omega, fun h5 hbut5 hob5 => ?_⟩
  have hle5 := hbut5.le hle4 hb4h
  have hob15 := hbut5.obj hne hob1'
  have e2 : rdBits b 8 3 = num b / 2 ^ 53 % 8 := hnum 8 3 (by omega)
  rw [e2]
  try simp (disch := first | omega | (simp only [PL]; omega)) only [PS, P1, P2, P3, P4, P5, P6, P7, P8, PA, PB, PC, Nat.reduceAdd, Nat.reduceSub, Nat.reduceMul, Nat.reduceLeDiff, Nat.reduceEqDiff, Nat.succ_ne_self, reduceCtorEq, Int.reduceToNat, Int.cast_ofNat_Int, Int.reduceEq, Int.reduceNe, Int.reduceLT, Int.reduceLE]
  refine i_cal H127 ⟨b1, b4, b, 11, 3, rfl, hob15.rules.2.1 (by simp), hob5, hne, hlen, by omega, by omega, fun h6 hbut6 hob6 => ?_⟩
  have hle6 := hbut6.le hle5 hb4h
  have hob16 := hbut6.obj hne hob15
  have e3 : rdBits b 11 3 = num b / 2 ^ 50 % 8 := hnum 11 3 (by omega)
  rw [e3]
  try simp (disch := first | omega | (simp only [PL]; omega)) only [PS, P1, P2, P3, P4, P5, P6, P7, P8, PA, PB, PC, Nat.reduceAdd, Nat.reduceSub, Nat.reduceMul, Nat.reduceLeDiff, Nat.reduceEqDiff, Nat.succ_ne_self, reduceCtorEq, Int.reduceToNat, Int.cast_ofNat_Int, Int.reduceEq, Int.reduceNe, Int.reduceLT, Int.reduceLE]
  refine i_call H79 ⟨_, rfl, ?_⟩
  cases hp : partsOf ((num b / 2 ^ 50 % 8 : Nat) : Int) with
  | none =>
    rw [hp] at hK
    simp only [Option.getD, Option.isSome, Tg.zero, aggT] at hK
    simp only [paV, hp, Option.elim]
    try simp (disch := first | omega | (simp only [PL]; omega)) only [PS, P1, P2, P3, P4, P5, P6, P7, P8, PA, PB, PC, Nat.reduceAdd, Nat.reduceSub, Nat.reduceMul, Nat.reduceLeDiff, Nat.reduceEqDiff, Nat.succ_ne_self, reduceCtorEq, Int.reduceToNat, Int.cast_ofNat_Int, Int.reduceEq, Int.reduceNe, Int.reduceLT, Int.reduceLE]
    refine i_newO fun b7 h7 hle7 hb7 ho7 => ?_
    try simp (disch := first | omega | (simp only [PL]; omega)) only [PS, P1, P2, P3, P4, P5, P6, P7, P8, PA, PB, PC, Nat.reduceAdd, Nat.reduceSub, Nat.reduceMul, Nat.reduceLeDiff, Nat.reduceEqDiff, Nat.succ_ne_self, reduceCtorEq, Int.reduceToNat, Int.cast_ofNat_Int, Int.reduceEq, Int.reduceNe, Int.reduceLT, Int.reduceLE]
    refine i_st (ho7.le (fr_le _ _)) 0 4 rfl rfl (by omega) (Nat.le_refl 4) fun o7 hob7 _ => ?_
    try simp (disch := first | omega | (simp only [PL]; omega)) only [PS, P1, P2, P3, P4, P5, P6, P7, P8, PA, PB, PC, Nat.reduceAdd, Nat.reduceSub, Nat.reduceMul, Nat.reduceLeDiff, Nat.reduceEqDiff, Nat.succ_ne_self, reduceCtorEq, Int.reduceToNat, Int.cast_ofNat_Int, Int.reduceEq, Int.reduceNe, Int.reduceLT, Int.reduceLE]
    exact hK _ (but.le (b := b7) (hle6.trans hle7) (le_none hle6 b7 hb7) fun x hx => Heap.set_ne hx)
  | some a =>
    rw [hp] at hK
    have hpa := partsOf_some hp
    simp only [paV, hp, Option.elim, Pa.enc]
    try simp (disch := first | omega | (simp only [PL]; omega)) only [PS, P1, P2, P3, P4, P5, P6, P7, P8, PA, PB, PC, Nat.reduceAdd, Nat.reduceSub, Nat.reduceMul, Nat.reduceLeDiff, Nat.reduceEqDiff, Nat.succ_ne_self, reduceCtorEq, Int.reduceToNat, Int.cast_ofNat_Int, Int.reduceEq, Int.reduceNe, Int.reduceLT, Int.reduceLE]
    refine i_newO fun b7 h7 hle7 hb7 ho7 => ?_
    try simp (disch := first | omega | (simp only [PL]; omega)) only [PS, P1, P2, P3, P4, P5, P6, P7, P8, PA, PB, PC, Nat.reduceAdd, Nat.reduceSub, Nat.reduceMul, Nat.reduceLeDiff, Nat.reduceEqDiff, Nat.succ_ne_self, reduceCtorEq, Int.reduceToNat, Int.cast_ofNat_Int, Int.reduceEq, Int.reduceNe, Int.reduceLT, Int.reduceLE]
    refine i_st (ho7.le (fr_le _ _)) 0 4 rfl rfl (by omega) (Nat.le_refl 4) fun o7 hob7 _ => ?_
    have hob72 : objAt (h7.set b7 o7) ⟨b7, 0, none⟩ [.int .i64 a.cb, .int .i64 a.cd, .int .i64 a.rb, .int .i64 a.rd] := hob7 h7 rfl
    have hb7h : h b7 = none := le_none hle6 b7 hb7
    have hne17 : b1 ≠ b7 := by rintro rfl; exact objAt.nn hob16 hb7
    have hne47 : b4 ≠ b7 := by rintro rfl; exact objAt.nn hob6 hb7
    have hle8 : Heap.le h (h7.set b7 o7) := but.le (b := b7) (hle6.trans hle7) hb7h fun x hx => Heap.set_ne hx
    have hob18 : objAt (h7.set b7 o7) ⟨b1, 0, none⟩ [.string (str b)] := but.obj (b := b7) (fun x hx => Heap.set_ne hx) hne17 (hob16.le hle7)
    have hob48 : objAt (h7.set b7 o7) ⟨b4, 0, none⟩ [.int .i64 (11 + 3 : Nat)] := but.obj (b := b7) (fun x hx => Heap.set_ne hx) hne47 (hob6.le hle7)
    generalize h7.set b7 o7 = h8 at *
    have haa0 : ∀ h (k : IntKind), o2V h (.aadr 4 1) (.v (.pointer (some ⟨b7, 0, none⟩))) (.v (.int k 0)) = some (.v (.pointer (some ⟨b7, 0, none⟩))) := fun h k => rfl
    have haa2 : ∀ h (k : IntKind), o2V h (.aadr 4 1) (.v (.pointer (some ⟨b7, 0, none⟩))) (.v (.int k 2)) = some (.v (.pointer (some ((⟨b7, 0, none⟩ : Addr).add 2)))) := fun h k => rfl
    have C0 : h8.cell ⟨b7, 0, none⟩ = some (.int .i64 a.cb) := hob72.rules.2.1 (by simp)
    try simp (disch := first | omega | (simp only [PL]; omega)) only [PS, P1, P2, P3, P4, P5, P6, P7, P8, PA, PB, PC, Nat.reduceAdd, Nat.reduceSub, Nat.reduceMul, Nat.reduceLeDiff, Nat.reduceEqDiff, Nat.succ_ne_self, reduceCtorEq, Int.reduceToNat, Int.cast_ofNat_Int, Int.reduceEq, Int.reduceNe, Int.reduceLT, Int.reduceLE, haa0, C0]
    refine i_cal H127 ⟨b1, b4, b, 14, a.cb, rfl, hob18.rules.2.1 (by simp), hob48, hne, hlen, by omega, by omega, fun h9 hbut9 hob9 => ?_⟩
    have hle9 := hbut9.le hle8 hb4h
    have hob19 := hbut9.obj hne hob18
    have hob79 := hbut9.obj (a := ⟨b7, 0, none⟩) (Ne.symm hne47) hob72
    have C2 : h9.cell ((⟨b7, 0, none⟩ : Addr).add 2) = some (.int .i64 a.rb) := hob79.rules.1 2 (by simp)
    have e4 : rdBits b 14 a.cb = num b / 2 ^ (24 + a.rb) % 2 ^ a.cb := by rw [hnum 14 a.cb (by omega)]; congr 3; omega
    rw [e4]
    try simp (disch := first | omega | (simp only [PL]; omega)) only [PS, P1, P2, P3, P4, P5, P6, P7, P8, PA, PB, PC, Nat.reduceAdd, Nat.reduceSub, Nat.reduceMul, Nat.reduceLeDiff, Nat.reduceEqDiff, Nat.succ_ne_self, reduceCtorEq, Int.reduceToNat, Int.cast_ofNat_Int, Int.reduceEq, Int.reduceNe, Int.reduceLT, Int.reduceLE, haa2, C2]
    refine i_cal H127 ⟨b1, b4, b, 14 + a.cb, a.rb, rfl, hob19.rules.2.1 (by simp), hob9, hne, hlen, by omega, by omega, fun h10 hbut10 hob10 => ?_⟩
    have hle10 := hbut10.le hle9 hb4h
    have hob110 := hbut10.obj hne hob19
    have e5 : rdBits b (14 + a.cb) a.rb = num b / 2 ^ 24 % 2 ^ a.rb := by rw [hnum _ _ (by omega)]; congr 3; omega
    rw [e5]
    try simp (disch := first | omega | (simp only [PL]; omega)) only [PS, P1, P2, P3, P4, P5, P6, P7, P8, PA, PB, PC, Nat.reduceAdd, Nat.reduceSub, Nat.reduceMul, Nat.reduceLeDiff, Nat.reduceEqDiff, Nat.succ_ne_self, reduceCtorEq, Int.reduceToNat, Int.cast_ofNat_Int, Int.reduceEq, Int.reduceNe, Int.reduceLT, Int.reduceLE]
    refine i_cal H127 ⟨b1, b4, b, 14 + a.cb + a.rb, 24, rfl, hob110.rules.2.1 (by simp), hob10, hne, hlen, by omega, by omega, fun h11 hbut11 hob11 => ?_⟩
    have hle11 := hbut11.le hle10 hb4h
    have e6 : rdBits b (14 + a.cb + a.rb) 24 = num b % 2 ^ 24 := by rw [hnum _ _ (by omega)]; congr 1; rw [show 64 - (14 + a.cb + a.rb) - 24 = 0 by omega]; simp
    rw [e6]
    try simp (disch := first | omega | (simp only [PL]; omega)) only [PS, P1, P2, P3, P4, P5, P6, P7, P8, PA, PB, PC, Nat.reduceAdd, Nat.reduceSub, Nat.reduceMul, Nat.reduceLeDiff, Nat.reduceEqDiff, Nat.succ_ne_self, reduceCtorEq, Int.reduceToNat, Int.cast_ofNat_Int, Int.reduceEq, Int.reduceNe, Int.reduceLT, Int.reduceLE]
    have hcl : num b / 2 ^ (24 + a.rb) % 2 ^ a.cb < 2 ^ 30 := Nat.lt_of_lt_of_le (Nat.mod_lt _ (Nat.pow_pos (by omega))) (Nat.pow_le_pow_right (by omega) (by omega))
    have hrl : num b / 2 ^ 24 % 2 ^ a.rb < 2 ^ 30 := Nat.lt_of_lt_of_le (Nat.mod_lt _ (Nat.pow_pos (by omega))) (Nat.pow_le_pow_right (by omega) (by omega))
    refine i_call H128 ⟨tagAt (num b) a, rfl, by simp only [tagAt]; omega, by simp only [tagAt]; omega, fun h12 hle12 => ?_⟩
    dsimp only at hK
    by_cases hbad : (tagAt (num b) a).bad
    · rw [if_pos hbad] at hK
      rw [fault_bad hbad]
      simp only [Option.getD, Option.isSome, Tg.zero, aggT] at hK
      try simp (disch := first | omega | (simp only [PL]; omega)) only [PS, P1, P2, P3, P4, P5, P6, P7, P8, PA, PB, PC, Nat.reduceAdd, Nat.reduceSub, Nat.reduceMul, Nat.reduceLeDiff, Nat.reduceEqDiff, Nat.succ_ne_self, reduceCtorEq, Int.reduceToNat, Int.cast_ofNat_Int, Int.reduceEq, Int.reduceNe, Int.reduceLT, Int.reduceLE]
      exact hK h12 (hle11.trans hle12)
    · rw [if_neg hbad] at hK
      rw [fault_ok hbad]
      simp only [Option.getD, Option.isSome, aggT, tagAt] at hK
      try simp (disch := first | omega | (simp only [PL]; omega)) only [PS, P1, P2, P3, P4, P5, P6, P7, P8, PA, PB, PC, Nat.reduceAdd, Nat.reduceSub, Nat.reduceMul, Nat.reduceLeDiff, Nat.reduceEqDiff, Nat.succ_ne_self, reduceCtorEq, Int.reduceToNat, Int.cast_ofNat_Int, Int.reduceEq, Int.reduceNe, Int.reduceLT, Int.reduceLE]
      exact hK h12 (hle11.trans hle12)
end Go.Cw
namespace Go.Cw
open Go
def S106 : Spec := fun args h K => ∃ bn, ∃ n k : Nat, args = [.int .i64 k, .pointer (some ⟨bn, 0, none⟩)] ∧ objAt h ⟨bn, 0, none⟩ [.int .u64 n] ∧ n < 2 ^ 64 ∧ k ≤ 30 ∧ ∀ h', but bn h h' → objAt h' ⟨bn, 0, none⟩ [.int .u64 (n / 2 ^ k : Nat)] → K (.int .i64 (n % 2 ^ k : Nat)) h'
theorem F106_ok {N : Num} {Γ : Ctx} [GoodC Γ] : Sat S106 (SF N Γ F106) := by
  rintro _ h K ⟨bn, n, k, rfl, ho, hn, hk, hK⟩
  refine i_fun rfl ?_
  simp only [F106, env0, List.map, List.length, List.replicate, List.cons_append, List.nil_append, Nat.reduceSub, Nat.reduceAdd]
  have hc : h.cell ⟨bn, 0, none⟩ = some (.int .u64 n) := ho.rules.2.1 (by simp)
  have h2k : 2 ^ k ≤ 2 ^ 30 := Nat.pow_le_pow_right (by omega) hk
  have h2p : 0 < 2 ^ k := Nat.pow_pos (by omega)
  have hsl : binV .shl (.int .u64 1) (.int .i64 (k : Int)) = some (.int .u64 ((2 ^ k : Nat) : Int)) := by
    have := shl_nat .i64 1 k (by omega) (by omega)
    rw [Nat.one_mul] at this; exact this
  have hsub : IntKind.u64.wrap (((2 ^ k : Nat) : Int) - 1) = ((2 ^ k - 1 : Nat) : Int) := by
    rw [show ((2 ^ k : Nat) : Int) - 1 = ((2 ^ k - 1 : Nat) : Int) by omega, wrap_u64 _ (by omega)]
  have han := and_u64 n (2 ^ k - 1) hn (by omega)
  rw [Nat.and_two_pow_sub_one_eq_mod] at han
  have hml : n % 2 ^ k < 2 ^ 30 := Nat.lt_of_lt_of_le (Nat.mod_lt _ h2p) h2k
  have hsr := shr_nat .u64 .i64 n k (by simp [IntKind.bits]; omega)
  try simp (disch := first | omega | (simp only [PL]; omega)) only [PS, P1, P2, P3, P4, P5, P6, P7, P8, PA, PB, PC, Nat.reduceAdd, Nat.reduceSub, Nat.reduceMul, Nat.reduceLeDiff, Nat.reduceEqDiff, Nat.succ_ne_self, reduceCtorEq, Int.reduceToNat, Int.cast_ofNat_Int, Int.reduceEq, Int.reduceNe, Int.reduceLT, Int.reduceLE, hc, hsl, hsub, han, hsr]
  refine i_st ho 0 1 rfl rfl (by omega) (Nat.le_refl 1) fun o hob _ => ?_
  have hob2 : objAt (h.set bn o) ⟨bn, 0, none⟩ [.int .u64 (n / 2 ^ k : Nat)] := hob h rfl
  try simp (disch := first | omega | (simp only [PL]; omega)) only [PS, P1, P2, P3, P4, P5, P6, P7, P8, PA, PB, PC, Nat.reduceAdd, Nat.reduceSub, Nat.reduceMul, Nat.reduceLeDiff, Nat.reduceEqDiff, Nat.succ_ne_self, reduceCtorEq, Int.reduceToNat, Int.cast_ofNat_Int, Int.reduceEq, Int.reduceNe, Int.reduceLT, Int.reduceLE]
  exact hK _ (fun x hx => Heap.set_ne hx) hob2
def S81 (N : Num) : Spec := fun args h K => ∃ b, args = [.string (str b)] ∧ ∀ h', Heap.le h h' → K (.tuple #[tgV b, errV N (if (tagOf b).isSome then 0 else 3)]) h'
theorem num_take {b : List UInt8} {i : Nat} (hi : i < b.length) : num (b.take (i + 1)) = num (b.take i) * 256 + (b.getD i 0).toNat := by rw [take_succ_d 0 hi, num_snoc]
theorem F81_ok {N : Num} {Γ : Ctx} [GoodC Γ] (H106 : Sat S106 (Γ 106)) (H107 : Sat S107 (Γ 107)) (H108 : Sat (S108 N) (Γ 108)) : Sat (S81 N) (SF N Γ F81) := by
  rintro _ h K ⟨b, rfl, hK⟩
  refine i_fun rfl ?_
  simp only [F81, env0, List.map, List.length, List.replicate, List.cons_append, List.nil_append, Nat.reduceSub, Nat.reduceAdd]
  unfold tgV tagOf at hK
  by_cases hlen : b.length = 8
  rotate_left
  · have hl : ((b.length : Int) ≠ 8) = True := by rw [eq_iff_iff]; simp; omega
    rw [if_pos hlen] at hK
    simp only [Option.getD, Option.isSome, Tg.zero, aggT, Bool.false_eq_true, if_false, errV_succ] at hK
    try simp (disch := first | omega | (simp only [PL]; omega)) only [PS, P1, P2, P3, P4, P5, P6, P7, P8, PA, PB, PC, Nat.reduceAdd, Nat.reduceSub, Nat.reduceMul, Nat.reduceLeDiff, Nat.reduceEqDiff, Nat.succ_ne_self, reduceCtorEq, Int.reduceToNat, Int.cast_ofNat_Int, Int.reduceEq, Int.reduceNe, Int.reduceLT, Int.reduceLE, hl]
    exact hK h (Heap.le.refl h)
  have hl : ((b.length : Int) ≠ 8) = False := by rw [eq_iff_iff]; simp; omega
  rw [if_neg (by omega)] at hK
  try simp (disch := first | omega | (simp only [PL]; omega)) only [PS, P1, P2, P3, P4, P5, P6, P7, P8, PA, PB, PC, Nat.reduceAdd, Nat.reduceSub, Nat.reduceMul, Nat.reduceLeDiff, Nat.reduceEqDiff, Nat.succ_ne_self, reduceCtorEq, Int.reduceToNat, Int.cast_ofNat_Int, Int.reduceEq, Int.reduceNe, Int.reduceLT, Int.reduceLE, hl]
  refine i_newO fun b3 h1 hle1 hb3 ho3 => ?_
  try simp (disch := first | omega | (simp only [PL]; omega)) only [PS, P1, P2, P3, P4, P5, P6, P7, P8, PA, PB, PC, Nat.reduceAdd, Nat.reduceSub, Nat.reduceMul, Nat.reduceLeDiff, Nat.reduceEqDiff, Nat.succ_ne_self, reduceCtorEq, Int.reduceToNat, Int.cast_ofNat_Int, Int.reduceEq, Int.reduceNe, Int.reduceLT, Int.reduceLE]
  refine i_st (ho3.le (fr_le _ _)) 0 1 rfl rfl (by omega) (Nat.le_refl 1) fun o hob _ => ?_
  have hob3 : objAt (h1.set b3 o) ⟨b3, 0, none⟩ [.int .u64 (num (b.take 0) : Nat)] := hob h1 rfl
  have hle2 : Heap.le h (h1.set b3 o) := but.le (b := b3) hle1 hb3 fun x hx => Heap.set_ne hx
  generalize h1.set b3 o = h2 at *
  try simp (disch := first | omega | (simp only [PL]; omega)) only [PS, P1, P2, P3, P4, P5, P6, P7, P8, PA, PB, PC, Nat.reduceAdd, Nat.reduceSub, Nat.reduceMul, Nat.reduceLeDiff, Nat.reduceEqDiff, Nat.succ_ne_self, reduceCtorEq, Int.reduceToNat, Int.cast_ofNat_Int, Int.reduceEq, Int.reduceNe, Int.reduceLT, Int.reduceLE]
  refine i_meet_blk (fun env H => Heap.le h H ∧ objAt H ⟨b3, 0, none⟩ [.int .u64 (num b : Nat)] ∧ env = [some (.string (str b)), some (.agg #[.int .i64 0, .int .i64 0, .int .i64 0, .int .i64 0, .int .i64 0, .int .i64 0]), some .nilIface, some (.pointer (some ⟨b3, 0, none⟩)), none, none, none, none, none, none, none, none, none, none, none, none, none, none, none, none, none, none, none, none, none, none, none, none, none, none, none, none, none, none, none]) ?_ ?_
  rotate_left
  · refine i_loop (fun i : Nat => [some (.string (str b)), some (.agg #[.int .i64 0, .int .i64 0, .int .i64 0, .int .i64 0, .int .i64 0, .int .i64 0]), some .nilIface, some (.pointer (some ⟨b3, 0, none⟩)), none, none, none, none, none, none, none, some (.int .i64 b.length), some (.int .i64 i), none, none, none, none, none, none, none, none, none, none, none, none, none, none, none, none, none, none, none, none, none, none])
      (fun i H => i ≤ 8 ∧ Heap.le h H ∧ objAt H ⟨b3, 0, none⟩ [.int .u64 (num (b.take i) : Nat)]) (fun i => 8 - i) 0 (by try simp only [Pe, and_true, true_and, and_self]; rfl) ⟨by omega, hle2, hob3⟩ ?_
    rintro i H ⟨hi, hle, ho⟩
    have hc : H.cell ⟨b3, 0, none⟩ = some (.int .u64 (num (b.take i) : Nat)) := ho.rules.2.1 (by simp)
    try simp (disch := first | omega | (simp only [PL]; omega)) only [PS, P1, P2, P3, P4, P5, P6, P7, P8, PA, PB, PC, Nat.reduceAdd, Nat.reduceSub, Nat.reduceMul, Nat.reduceLeDiff, Nat.reduceEqDiff, Nat.succ_ne_self, reduceCtorEq, Int.reduceToNat, Int.cast_ofNat_Int, Int.reduceEq, Int.reduceNe, Int.reduceLT, Int.reduceLE]
    refine i_cond (fun c1 => ?_) (fun c1 => ?_)
    rotate_left
    · have : i = b.length := by omega
      subst this
      rw [List.take_length] at ho
      try simp (disch := first | omega | (simp only [PL]; omega)) only [PS, P1, P2, P3, P4, P5, P6, P7, P8, PA, PB, PC, Nat.reduceAdd, Nat.reduceSub, Nat.reduceMul, Nat.reduceLeDiff, Nat.reduceEqDiff, Nat.succ_ne_self, reduceCtorEq, Int.reduceToNat, Int.cast_ofNat_Int, Int.reduceEq, Int.reduceNe, Int.reduceLT, Int.reduceLE]
      exact k_meet _ (by try simp only [Pe, and_true, true_and, and_self]) ⟨hle, ho, rfl⟩
    have hi2 : i < b.length := by omega
    have hnl := num_lt (b.take i)
    have hnl2 : num (b.take i) < 256 ^ 7 := Nat.lt_of_lt_of_le hnl (Nat.pow_le_pow_right (by omega) (by rw [List.length_take]; omega))
    have hbyte := (b.getD i 0).toNat_lt
    have hsl := shl_nat .u64 (num (b.take i)) 8 (by omega) (by omega)
    have hcv : IntKind.u64.wrap (((b.getD i 0).toNat : Nat) : Int) = (((b.getD i 0).toNat : Nat) : Int) := wrap_u64 _ (by omega)
    have hor := or_u64 (num (b.take i) * 2 ^ 8) (b.getD i 0).toNat (by omega) (by omega)
    have hor2 : num (b.take i) * 2 ^ 8 ||| (b.getD i 0).toNat = num (b.take (i + 1)) := by
      rw [num_take hi2, Nat.mul_comm _ (2 ^ 8), ← Nat.two_pow_add_eq_or_of_lt (by omega)]
    rw [hor2] at hor
    have hsl' : binV .shl (.int .u64 (num (b.take i) : Nat)) (.int .u64 8) = some (.int .u64 ((num (b.take i) * 2 ^ 8 : Nat) : Int)) := hsl
    try simp (disch := first | omega | (simp only [PL]; omega)) only [PS, P1, P2, P3, P4, P5, P6, P7, P8, PA, PB, PC, Nat.reduceAdd, Nat.reduceSub, Nat.reduceMul, Nat.reduceLeDiff, Nat.reduceEqDiff, Nat.succ_ne_self, reduceCtorEq, Int.reduceToNat, Int.cast_ofNat_Int, Int.reduceEq, Int.reduceNe, Int.reduceLT, Int.reduceLE, hc, hsl', hcv, hor]
    refine i_st ho 0 1 rfl rfl (by omega) (Nat.le_refl 1) fun o2 hob' _ => ?_
    have hob4 : objAt (H.set b3 o2) ⟨b3, 0, none⟩ [.int .u64 (num (b.take (i + 1)) : Nat)] := hob' H rfl
    try simp (disch := first | omega | (simp only [PL]; omega)) only [PS, P1, P2, P3, P4, P5, P6, P7, P8, PA, PB, PC, Nat.reduceAdd, Nat.reduceSub, Nat.reduceMul, Nat.reduceLeDiff, Nat.reduceEqDiff, Nat.succ_ne_self, reduceCtorEq, Int.reduceToNat, Int.cast_ofNat_Int, Int.reduceEq, Int.reduceNe, Int.reduceLT, Int.reduceLE]
    exact k_loop (i + 1) (by omega) (by try simp only [Pe, and_true, true_and, and_self]) ⟨by omega, but.le (b := b3) hle hb3 fun x hx => Heap.set_ne hx, hob4⟩
  rintro env H ⟨hle, ho, rfl⟩
  have hnlt := num_lt b
  rw [hlen] at hnlt
  generalize num b = n at *
  try simp (disch := first | omega | (simp only [PL]; omega)) only [PS, P1, P2, P3, P4, P5, P6, P7, P8, PA, PB, PC, Nat.reduceAdd, Nat.reduceSub, Nat.reduceMul, Nat.reduceLeDiff, Nat.reduceEqDiff, Nat.succ_ne_self, reduceCtorEq, Int.reduceToNat, Int.cast_ofNat_Int, Int.reduceEq, Int.reduceNe, Int.reduceLT, Int.reduceLE]
  refine i_newO fun b6 h3 hle3 hb6 ho6 => ?_
  have hne : b3 ≠ b6 := by rintro rfl; exact objAt.nn ho hb6
  have ho6' : objAt h3 ⟨b6, 0, none⟩ [.int .i64 0, .int .i64 0, .int .i64 0, .int .i64 0, .int .i64 0, .int .i64 0] := ho6.le (fr_le _ _)
  have hb6h : h b6 = none := le_none hle b6 hb6
  try simp (disch := first | omega | (simp only [PL]; omega)) only [PS, P1, P2, P3, P4, P5, P6, P7, P8, PA, PB, PC, Nat.reduceAdd, Nat.reduceSub, Nat.reduceMul, Nat.reduceLeDiff, Nat.reduceEqDiff, Nat.succ_ne_self, reduceCtorEq, Int.reduceToNat, Int.cast_ofNat_Int, Int.reduceEq, Int.reduceNe, Int.reduceLT, Int.reduceLE]
  refine i_cal H106 ⟨b3, n, 24, rfl, ho.le hle3, by omega, by omega, fun h4 hbut4 hob4 => ?_⟩
  have hle4 := hbut4.le (hle.trans hle3) hb3
  have ho64 := hbut4.obj (a := ⟨b6, 0, none⟩) (Ne.symm hne) ho6'
  try simp (disch := first | omega | (simp only [PL]; omega)) only [PS, P1, P2, P3, P4, P5, P6, P7, P8, PA, PB, PC, Nat.reduceAdd, Nat.reduceSub, Nat.reduceMul, Nat.reduceLeDiff, Nat.reduceEqDiff, Nat.succ_ne_self, reduceCtorEq, Int.reduceToNat, Int.cast_ofNat_Int, Int.reduceEq, Int.reduceNe, Int.reduceLT, Int.reduceLE]
  refine i_st ho64 5 1 rfl rfl (by omega) (by simp) fun o5 hob5 _ => ?_
  have ho65 : objAt (h4.set b6 o5) ⟨b6, 0, none⟩ [.int .i64 0, .int .i64 0, .int .i64 0, .int .i64 0, .int .i64 0, .int .i64 (n % 2 ^ 24 : Nat)] := hob5 h4 rfl
  have ho35 : objAt (h4.set b6 o5) ⟨b3, 0, none⟩ [.int .u64 (n / 2 ^ 24 : Nat)] := but.obj (b := b6) (fun x hx => Heap.set_ne hx) hne hob4
  have hle5 : Heap.le h (h4.set b6 o5) := but.le (b := b6) hle4 hb6h fun x hx => Heap.set_ne hx
  generalize h4.set b6 o5 = h5 at *
  have hc3 : h5.cell ⟨b3, 0, none⟩ = some (.int .u64 (n / 2 ^ 24 : Nat)) := ho35.rules.2.1 (by simp)
  have hsr := shr_nat .u64 .u64 (n / 2 ^ 24) 26 (by simp [IntKind.bits])
  have e50 : n / 2 ^ 24 / 2 ^ 26 = n / 2 ^ 50 := by rw [Nat.div_div_eq_div_mul, ← Nat.pow_add]
  rw [e50] at hsr
  have hsr' : binV .shr (.int .u64 ((n / 2 ^ 24 : Nat) : Int)) (.int .u64 26) = some (.int .u64 ((n / 2 ^ 50 : Nat) : Int)) := hsr
  have han := and_u64 (n / 2 ^ 50) 7 (by omega) (by omega)
  rw [show (7 : Nat) = 2 ^ 3 - 1 from rfl, Nat.and_two_pow_sub_one_eq_mod] at han
  have han' : binV .and (.int .u64 ((n / 2 ^ 50 : Nat) : Int)) (.int .u64 7) = some (.int .u64 ((n / 2 ^ 50 % 8 : Nat) : Int)) := han
  have hw : IntKind.i64.wrap ((n / 2 ^ 50 % 8 : Nat) : Int) = ((n / 2 ^ 50 % 8 : Nat) : Int) := w64 (by omega) (by omega)
  try simp (disch := first | omega | (simp only [PL]; omega)) only [PS, P1, P2, P3, P4, P5, P6, P7, P8, PA, PB, PC, Nat.reduceAdd, Nat.reduceSub, Nat.reduceMul, Nat.reduceLeDiff, Nat.reduceEqDiff, Nat.succ_ne_self, reduceCtorEq, Int.reduceToNat, Int.cast_ofNat_Int, Int.reduceEq, Int.reduceNe, Int.reduceLT, Int.reduceLE, hc3, hsr', han', hw]
  refine i_call H107 ⟨_, rfl, fun h6 hle6 => ?_⟩
  cases hp : partsOf ((n / 2 ^ 50 % 8 : Nat) : Int) with
  | none =>
    rw [hp] at hK
    simp only [Option.getD, Option.isSome, Tg.zero, aggT, Bool.false_eq_true, if_false, errV_succ] at hK
    simp only [paV, hp, Option.elim]
    try simp (disch := first | omega | (simp only [PL]; omega)) only [PS, P1, P2, P3, P4, P5, P6, P7, P8, PA, PB, PC, Nat.reduceAdd, Nat.reduceSub, Nat.reduceMul, Nat.reduceLeDiff, Nat.reduceEqDiff, Nat.succ_ne_self, reduceCtorEq, Int.reduceToNat, Int.cast_ofNat_Int, Int.reduceEq, Int.reduceNe, Int.reduceLT, Int.reduceLE]
    exact hK h6 (hle5.trans hle6)
  | some a =>
    rw [hp] at hK
    have hpa := partsOf_some hp
    simp only [paV, hp, Option.elim, Pa.enc]
    try simp (disch := first | omega | (simp only [PL]; omega)) only [PS, P1, P2, P3, P4, P5, P6, P7, P8, PA, PB, PC, Nat.reduceAdd, Nat.reduceSub, Nat.reduceMul, Nat.reduceLeDiff, Nat.reduceEqDiff, Nat.succ_ne_self, reduceCtorEq, Int.reduceToNat, Int.cast_ofNat_Int, Int.reduceEq, Int.reduceNe, Int.reduceLT, Int.reduceLE]
    have ho36 := ho35.le hle6
    have ho66 := ho65.le hle6
    have hle6' := hle5.trans hle6
    have hemp : ∀ H, Heap.le (fun _ => none) H := fun H x o hx => by cases hx
    refine i_cal H106 ⟨b3, n / 2 ^ 24, a.rb, rfl, ho36, by omega, by omega, fun h7 hbut7 hob7 => ?_⟩
    have hle7 := hbut7.le hle6' hb3
    have ho67 := hbut7.obj (a := ⟨b6, 0, none⟩) (Ne.symm hne) ho66
    refine i_lex (fun _ => none) (hemp _) ?_ (le_one (hemp _)) ?_
    · intro l' hl'
      simp only [List.mem_singleton] at hl'
      subst hl'
      exact ⟨true, rfl, fun _ => ⟨.v (.int .i64 a.cb), by try simp (disch := first | omega | (simp only [PL]; omega)) only [PS, P1, P2, P3, P4, P5, P6, P7, P8, PA, PB, PC, Nat.reduceAdd, Nat.reduceSub, Nat.reduceMul, Nat.reduceLeDiff, Nat.reduceEqDiff, Nat.succ_ne_self, reduceCtorEq, Int.reduceToNat, Int.cast_ofNat_Int, Int.reduceEq, Int.reduceNe, Int.reduceLT, Int.reduceLE]⟩⟩
    have en : n / 2 ^ 24 / 2 ^ a.rb = n / 2 ^ (24 + a.rb) := by rw [Nat.div_div_eq_div_mul, ← Nat.pow_add]
    rw [en] at hob7
    have hnl2 : n / 2 ^ (24 + a.rb) < 2 ^ 64 := Nat.lt_of_le_of_lt (Nat.div_le_self _ _) (by omega)
    try simp (disch := first | omega | (simp only [PL]; omega)) only [PS, P1, P2, P3, P4, P5, P6, P7, P8, PA, PB, PC, Nat.reduceAdd, Nat.reduceSub, Nat.reduceMul, Nat.reduceLeDiff, Nat.reduceEqDiff, Nat.succ_ne_self, reduceCtorEq, Int.reduceToNat, Int.cast_ofNat_Int, Int.reduceEq, Int.reduceNe, Int.reduceLT, Int.reduceLE]
    refine i_cal H106 ⟨b3, n / 2 ^ (24 + a.rb), a.cb, rfl, hob7, hnl2, by omega, fun h8 hbut8 hob8 => ?_⟩
    have hle8 := hbut8.le hle7 hb3
    have ho68 := hbut8.obj (a := ⟨b6, 0, none⟩) (Ne.symm hne) ho67
    have en2 : n / 2 ^ (24 + a.rb) / 2 ^ a.cb = n / 2 ^ 50 := by
      rw [Nat.div_div_eq_div_mul, ← Nat.pow_add]
      congr 2; omega
    rw [en2] at hob8
    try simp (disch := first | omega | (simp only [PL]; omega)) only [PS, P1, P2, P3, P4, P5, P6, P7, P8, PA, PB, PC, Nat.reduceAdd, Nat.reduceSub, Nat.reduceMul, Nat.reduceLeDiff, Nat.reduceEqDiff, Nat.succ_ne_self, reduceCtorEq, Int.reduceToNat, Int.cast_ofNat_Int, Int.reduceEq, Int.reduceNe, Int.reduceLT, Int.reduceLE]
    have hcl := Nat.mod_lt (n / 2 ^ (24 + a.rb)) (Nat.pow_pos (n := a.cb) (show 0 < 2 by omega))
    have hcl2 : 2 ^ a.cb ≤ 2 ^ 30 := Nat.pow_le_pow_right (by omega) (by omega)
    have hrl := Nat.mod_lt (n / 2 ^ 24) (Nat.pow_pos (n := a.rb) (show 0 < 2 by omega))
    have hrl2 : 2 ^ a.rb ≤ 2 ^ 30 := Nat.pow_le_pow_right (by omega) (by omega)
    refine i_cal H106 ⟨b3, n / 2 ^ 50, 3, rfl, hob8, by omega, by omega, fun h9 hbut9 hob9 => ?_⟩
    have hle9 := hbut9.le hle8 hb3
    have ho69 := hbut9.obj (a := ⟨b6, 0, none⟩) (Ne.symm hne) ho68
    have en3 : n / 2 ^ 50 / 2 ^ 3 = n / 2 ^ 53 := by rw [Nat.div_div_eq_div_mul, ← Nat.pow_add]
    rw [en3] at hob9
    try simp (disch := first | omega | (simp only [PL]; omega)) only [PS, P1, P2, P3, P4, P5, P6, P7, P8, PA, PB, PC, Nat.reduceAdd, Nat.reduceSub, Nat.reduceMul, Nat.reduceLeDiff, Nat.reduceEqDiff, Nat.succ_ne_self, reduceCtorEq, Int.reduceToNat, Int.cast_ofNat_Int, Int.reduceEq, Int.reduceNe, Int.reduceLT, Int.reduceLE]
    refine i_cal H106 ⟨b3, n / 2 ^ 53, 3, rfl, hob9, by omega, by omega, fun h10 hbut10 hob10 => ?_⟩
    have hle10 := hbut10.le hle9 hb3
    have ho610 := hbut10.obj (a := ⟨b6, 0, none⟩) (Ne.symm hne) ho69
    have en4 : n / 2 ^ 53 / 2 ^ 3 = n / 2 ^ 56 := by rw [Nat.div_div_eq_div_mul, ← Nat.pow_add]
    rw [en4] at hob10
    try simp (disch := first | omega | (simp only [PL]; omega)) only [PS, P1, P2, P3, P4, P5, P6, P7, P8, PA, PB, PC, Nat.reduceAdd, Nat.reduceSub, Nat.reduceMul, Nat.reduceLeDiff, Nat.reduceEqDiff, Nat.succ_ne_self, reduceCtorEq, Int.reduceToNat, Int.cast_ofNat_Int, Int.reduceEq, Int.reduceNe, Int.reduceLT, Int.reduceLE]
    refine i_cal H106 ⟨b3, n / 2 ^ 56, 8, rfl, hob10, by omega, by omega, fun h11 hbut11 hob11 => ?_⟩
    have hle11 := hbut11.le hle10 hb3
    have ho611 := hbut11.obj (a := ⟨b6, 0, none⟩) (Ne.symm hne) ho610
    have en5 : n / 2 ^ 56 % 2 ^ 8 = n / 2 ^ 56 := Nat.mod_eq_of_lt (by omega)
    rw [en5]
    have hk47 : IntKind.i64.wrap (((n / 2 ^ 56 : Nat) : Int) - 47) = ((n / 2 ^ 56 : Nat) : Int) - 47 := by rw [w64 (by omega) (by omega)]
    try simp (disch := first | omega | (simp only [PL]; omega)) only [PS, P1, P2, P3, P4, P5, P6, P7, P8, PA, PB, PC, Nat.reduceAdd, Nat.reduceSub, Nat.reduceMul, Nat.reduceLeDiff, Nat.reduceEqDiff, Nat.succ_ne_self, reduceCtorEq, Int.reduceToNat, Int.cast_ofNat_Int, Int.reduceEq, Int.reduceNe, Int.reduceLT, Int.reduceLE, hk47]
    refine i_st ho611 4 1 rfl rfl (by omega) (by simp) fun o12 hob12 _ => ?_
    have hobA : objAt (h11.set b6 o12) ⟨b6, 0, none⟩ [.int .i64 0, .int .i64 0, .int .i64 0, .int .i64 0, .int .i64 (n / 2 ^ 24 % 2 ^ a.rb : Nat), .int .i64 (n % 2 ^ 24 : Nat)] := hob12 h11 rfl
    have hle12 : Heap.le h (h11.set b6 o12) := but.le (b := b6) hle11 hb6h fun x hx => Heap.set_ne hx
    generalize h11.set b6 o12 = h12 at *
    try simp (disch := first | omega | (simp only [PL]; omega)) only [PS, P1, P2, P3, P4, P5, P6, P7, P8, PA, PB, PC, Nat.reduceAdd, Nat.reduceSub, Nat.reduceMul, Nat.reduceLeDiff, Nat.reduceEqDiff, Nat.succ_ne_self, reduceCtorEq, Int.reduceToNat, Int.cast_ofNat_Int, Int.reduceEq, Int.reduceNe, Int.reduceLT, Int.reduceLE]
    refine i_st hobA 3 1 rfl rfl (by omega) (by simp) fun o13 hob13 _ => ?_
    have hobB : objAt (h12.set b6 o13) ⟨b6, 0, none⟩ [.int .i64 0, .int .i64 0, .int .i64 0, .int .i64 (n / 2 ^ (24 + a.rb) % 2 ^ a.cb : Nat), .int .i64 (n / 2 ^ 24 % 2 ^ a.rb : Nat), .int .i64 (n % 2 ^ 24 : Nat)] := hob13 h12 rfl
    have hle13 : Heap.le h (h12.set b6 o13) := but.le (b := b6) hle12 hb6h fun x hx => Heap.set_ne hx
    generalize h12.set b6 o13 = h13 at *
    try simp (disch := first | omega | (simp only [PL]; omega)) only [PS, P1, P2, P3, P4, P5, P6, P7, P8, PA, PB, PC, Nat.reduceAdd, Nat.reduceSub, Nat.reduceMul, Nat.reduceLeDiff, Nat.reduceEqDiff, Nat.succ_ne_self, reduceCtorEq, Int.reduceToNat, Int.cast_ofNat_Int, Int.reduceEq, Int.reduceNe, Int.reduceLT, Int.reduceLE]
    refine i_st hobB 2 1 rfl rfl (by omega) (by simp) fun o14 hob14 _ => ?_
    have hobC : objAt (h13.set b6 o14) ⟨b6, 0, none⟩ [.int .i64 0, .int .i64 0, .int .i64 (n / 2 ^ 50 % 2 ^ 3 : Nat), .int .i64 (n / 2 ^ (24 + a.rb) % 2 ^ a.cb : Nat), .int .i64 (n / 2 ^ 24 % 2 ^ a.rb : Nat), .int .i64 (n % 2 ^ 24 : Nat)] := hob14 h13 rfl
    have hle14 : Heap.le h (h13.set b6 o14) := but.le (b := b6) hle13 hb6h fun x hx => Heap.set_ne hx
    generalize h13.set b6 o14 = h14 at *
    try simp (disch := first | omega | (simp only [PL]; omega)) only [PS, P1, P2, P3, P4, P5, P6, P7, P8, PA, PB, PC, Nat.reduceAdd, Nat.reduceSub, Nat.reduceMul, Nat.reduceLeDiff, Nat.reduceEqDiff, Nat.succ_ne_self, reduceCtorEq, Int.reduceToNat, Int.cast_ofNat_Int, Int.reduceEq, Int.reduceNe, Int.reduceLT, Int.reduceLE]
    refine i_st hobC 1 1 rfl rfl (by omega) (by simp) fun o15 hob15 _ => ?_
    have hobD : objAt (h14.set b6 o15) ⟨b6, 0, none⟩ [.int .i64 0, .int .i64 (n / 2 ^ 53 % 2 ^ 3 : Nat), .int .i64 (n / 2 ^ 50 % 2 ^ 3 : Nat), .int .i64 (n / 2 ^ (24 + a.rb) % 2 ^ a.cb : Nat), .int .i64 (n / 2 ^ 24 % 2 ^ a.rb : Nat), .int .i64 (n % 2 ^ 24 : Nat)] := hob15 h14 rfl
    have hle15 : Heap.le h (h14.set b6 o15) := but.le (b := b6) hle14 hb6h fun x hx => Heap.set_ne hx
    generalize h14.set b6 o15 = h15 at *
    try simp (disch := first | omega | (simp only [PL]; omega)) only [PS, P1, P2, P3, P4, P5, P6, P7, P8, PA, PB, PC, Nat.reduceAdd, Nat.reduceSub, Nat.reduceMul, Nat.reduceLeDiff, Nat.reduceEqDiff, Nat.succ_ne_self, reduceCtorEq, Int.reduceToNat, Int.cast_ofNat_Int, Int.reduceEq, Int.reduceNe, Int.reduceLT, Int.reduceLE]
    refine i_st hobD 0 1 rfl rfl (by omega) (by simp) fun o16 hob16 _ => ?_
    have hobE : objAt (h15.set b6 o16) ⟨b6, 0, none⟩ [.int .i64 (((n / 2 ^ 56 : Nat) : Int) - 47), .int .i64 (n / 2 ^ 53 % 2 ^ 3 : Nat), .int .i64 (n / 2 ^ 50 % 2 ^ 3 : Nat), .int .i64 (n / 2 ^ (24 + a.rb) % 2 ^ a.cb : Nat), .int .i64 (n / 2 ^ 24 % 2 ^ a.rb : Nat), .int .i64 (n % 2 ^ 24 : Nat)] := hob16 h15 rfl
    have hle16 : Heap.le h (h15.set b6 o16) := but.le (b := b6) hle15 hb6h fun x hx => Heap.set_ne hx
    generalize h15.set b6 o16 = h16 at *
    have hrowG : ∀ H, Heap.le h16 H → H.row ⟨b6, 0, none⟩ 6 = some #[.int .i64 (((n / 2 ^ 56 : Nat) : Int) - 47), .int .i64 (n / 2 ^ 53 % 2 ^ 3 : Nat), .int .i64 (n / 2 ^ 50 % 2 ^ 3 : Nat), .int .i64 (n / 2 ^ (24 + a.rb) % 2 ^ a.cb : Nat), .int .i64 (n / 2 ^ 24 % 2 ^ a.rb : Nat), .int .i64 (n % 2 ^ 24 : Nat)] := fun H hl => (hobE.le hl).rules.2.2
    have hrow := hrowG h16 (Heap.le.refl h16)
    try simp (disch := first | omega | (simp only [PL]; omega)) only [PS, P1, P2, P3, P4, P5, P6, P7, P8, PA, PB, PC, Nat.reduceAdd, Nat.reduceSub, Nat.reduceMul, Nat.reduceLeDiff, Nat.reduceEqDiff, Nat.succ_ne_self, reduceCtorEq, Int.reduceToNat, Int.cast_ofNat_Int, Int.reduceEq, Int.reduceNe, Int.reduceLT, Int.reduceLE, hrow]
    refine i_call H108 ⟨tagAt n a, rfl, fun h17 hle17 => ?_⟩
    have hrow2 := hrowG h17 hle17
    dsimp only at hK
    by_cases hbad : (tagAt n a).bad
    · rw [fault_bad hbad]
      simp only [if_pos hbad, Option.getD, Option.isSome, Tg.zero, aggT, Bool.false_eq_true, if_false, errV_succ] at hK ⊢
      try simp (disch := first | omega | (simp only [PL]; omega)) only [PS, P1, P2, P3, P4, P5, P6, P7, P8, PA, PB, PC, Nat.reduceAdd, Nat.reduceSub, Nat.reduceMul, Nat.reduceLeDiff, Nat.reduceEqDiff, Nat.succ_ne_self, reduceCtorEq, Int.reduceToNat, Int.cast_ofNat_Int, Int.reduceEq, Int.reduceNe, Int.reduceLT, Int.reduceLE]
      exact hK h17 (hle16.trans hle17)
    · rw [fault_ok hbad]
      simp only [if_neg hbad] at hK
      simp only [Option.getD, Option.isSome, aggT, tagAt, if_true, errV_zero] at hK ⊢
      try simp (disch := first | omega | (simp only [PL]; omega)) only [PS, P1, P2, P3, P4, P5, P6, P7, P8, PA, PB, PC, Nat.reduceAdd, Nat.reduceSub, Nat.reduceMul, Nat.reduceLeDiff, Nat.reduceEqDiff, Nat.succ_ne_self, reduceCtorEq, Int.reduceToNat, Int.cast_ofNat_Int, Int.reduceEq, Int.reduceNe, Int.reduceLT, Int.reduceLE, hrow2]
      exact hK h17 (hle16.trans hle17)
end Go.Cw
namespace Go.Cw
open Go
theorem kindOf_some (b : List UInt8) : kindOf b = ((tagOf b).getD Tg.zero).kind := by unfold kindOf; cases tagOf b <;> rfl
def S83 : Spec := fun args h K => ∃ b, args = [.string (str b)] ∧ ∀ h', Heap.le h h' → K (.int .i64 (kindOf b)) h'
theorem F83_ok {N : Num} {Γ : Ctx} [GoodC Γ] (H110 : Sat S110 (Γ 110)) : Sat S83 (SF N Γ F83) := by
  rintro _ h K ⟨b, rfl, hK⟩
  refine i_fun rfl ?_
  simp only [F83, env0, List.map, List.length, List.replicate, List.cons_append, List.nil_append, Nat.reduceSub, Nat.reduceAdd]
  try simp (disch := first | omega | (simp only [PL]; omega)) only [PS, P1, P2, P3, P4, P5, P6, P7, P8, PA, PB, PC, Nat.reduceAdd, Nat.reduceSub, Nat.reduceMul, Nat.reduceLeDiff, Nat.reduceEqDiff, Nat.succ_ne_self, reduceCtorEq, Int.reduceToNat, Int.cast_ofNat_Int, Int.reduceEq, Int.reduceNe, Int.reduceLT, Int.reduceLE]
  refine i_call H110 ⟨b, rfl, fun h1 hle1 => ?_⟩
  have := hK h1 hle1
  rw [kindOf_some] at this
  unfold tgV aggT
  cases ht : tagOf b with
  | none =>
    rw [ht] at this
    simp only [Option.getD, Option.isSome, Tg.zero] at this ⊢
    try simp (disch := first | omega | (simp only [PL]; omega)) only [PS, P1, P2, P3, P4, P5, P6, P7, P8, PA, PB, PC, Nat.reduceAdd, Nat.reduceSub, Nat.reduceMul, Nat.reduceLeDiff, Nat.reduceEqDiff, Nat.succ_ne_self, reduceCtorEq, Int.reduceToNat, Int.cast_ofNat_Int, Int.reduceEq, Int.reduceNe, Int.reduceLT, Int.reduceLE]
    exact this
  | some t =>
    rw [ht] at this
    simp only [Option.getD, Option.isSome] at this ⊢
    try simp (disch := first | omega | (simp only [PL]; omega)) only [PS, P1, P2, P3, P4, P5, P6, P7, P8, PA, PB, PC, Nat.reduceAdd, Nat.reduceSub, Nat.reduceMul, Nat.reduceLeDiff, Nat.reduceEqDiff, Nat.succ_ne_self, reduceCtorEq, Int.reduceToNat, Int.cast_ofNat_Int, Int.reduceEq, Int.reduceNe, Int.reduceLT, Int.reduceLE]
    exact this
end Go.Cw
namespace Go.Cw
open Go
end Go.Cw
namespace Go.Cw
open Go
def pcs (c : UInt8) : List UInt8 → List (List UInt8)
  | [] => [[]]
  | x :: r => if x = c then [] :: pcs c r else match pcs c r with
    | [] => [[x]]
    | p :: q => (x :: p) :: q
theorem pcs_ne (c : UInt8) (s : List UInt8) : pcs c s ≠ [] := by
  cases s with
  | nil => simp [pcs]
  | cons x r => unfold pcs; split
                · simp
                · split <;> simp
theorem pcs_no {c : UInt8} : ∀ {s : List UInt8}, c ∉ s → pcs c s = [s] := by
  intro s
  induction s with
  | nil => intro _; rfl
  | cons x r ih =>
    intro h
    rw [List.mem_cons, not_or] at h
    unfold pcs
    rw [if_neg (Ne.symm h.1), ih h.2]
theorem pcs_cons {c : UInt8} : ∀ {a b : List UInt8}, c ∉ a → pcs c (a ++ c :: b) = a :: pcs c b := by
  intro a b
  induction a with
  | nil => intro _; simp [pcs]
  | cons x r ih =>
    intro h
    rw [List.mem_cons, not_or] at h
    rw [List.cons_append, pcs, if_neg (Ne.symm h.1), ih h.2]
def cutH (c : UInt8) (s : List UInt8) : List UInt8 := s.takeWhile fun x => x ≠ c
def cutT (c : UInt8) (s : List UInt8) : List UInt8 := (s.dropWhile fun x => x ≠ c).drop 1
theorem pcs_cut {c : UInt8} : ∀ {s : List UInt8}, c ∈ s → pcs c s = cutH c s :: pcs c (cutT c s) := by
  intro s
  induction s with
  | nil => intro h; simp at h
  | cons x r ih =>
    intro h
    by_cases hx : x = c
    · subst hx; simp [pcs, cutH, cutT]
    · rw [pcs, if_neg hx]
      have h2 : c ∈ r := by
        rw [List.mem_cons] at h
        rcases h with e | h
        · exact absurd e.symm hx
        · exact h
      have hd : (decide (x ≠ c)) = true := by simpa using hx
      have e1 : cutH c (x :: r) = x :: cutH c r := by unfold cutH; rw [List.takeWhile_cons, if_pos hd]
      have e2 : cutT c (x :: r) = cutT c r := by unfold cutT; rw [List.dropWhile_cons, if_pos hd]
      rw [ih h2, e1, e2]
def digs (s : List UInt8) : Prop := ∀ b ∈ s, 48 ≤ b.toNat ∧ b.toNat ≤ 57
instance (s : List UInt8) : Decidable (digs s) := by unfold digs; infer_instance
def numv (s : List UInt8) : Nat := s.foldl (fun a b => 10 * a + (b.toNat - 48)) 0
theorem numv_snoc (s : List UInt8) (b : UInt8) : numv (s ++ [b]) = 10 * numv s + (b.toNat - 48) := by simp [numv]
theorem numv_dec (n : Nat) : numv (dec n) = n := by
  induction n using Nat.strongRecOn with
  | _ n ih =>
    by_cases h : n < 10
    · rw [dec_lt h]; simp [numv, dig_val]; omega
    · rw [dec_ge (by omega), numv_snoc, ih _ (by omega), dig_val]; omega
theorem digs_dec (n : Nat) : digs (dec n) := dec_digits n
theorem digs_not {s : List UInt8} (h : digs s) {c : UInt8} (hc : c.toNat < 48 ∨ 57 < c.toNat) : c ∉ s := by
  intro hm; have := h c hm; omega
theorem numv_lt {s : List UInt8} (h : digs s) : numv s < 10 ^ s.length := by
  induction s using snoc_ind with
  | h0 => simp [numv]
  | hs s x ih =>
    have h1 := ih (fun b hb => h b (by simp [hb]))
    have h2 := h x (by simp)
    rw [numv_snoc, List.length_append, List.length_singleton, Nat.pow_succ]; omega
theorem Tg.good {t : Tg} (h : ¬ t.bad) : ∃ a, partsOf t.part = some a ∧ 1 ≤ t.kind ∧ t.kind ≤ 3 ∧ 0 ≤ t.filter ∧ t.filter ≤ 7 ∧ 0 ≤ t.serial ∧ t.serial ≤ 16777215 ∧ 0 ≤ t.company ∧ t.company < (10 ^ a.cd : Nat) ∧ 0 ≤ t.ref ∧ t.ref < (10 ^ a.rd : Nat) := by
  unfold Tg.bad at h
  split at h
  · exact absurd trivial h
  · rename_i a ha
    exact ⟨a, ha, by omega⟩
end Go.Cw
namespace Go.Cw
open Go
def numOk (s : List UInt8) : Prop := s ≠ [] ∧ s.length ≤ 8 ∧ digs s
instance (s : List UInt8) : Decidable (numOk s) := by unfold numOk; infer_instance
def figOk (s : List UInt8) : Prop := s.length ≤ 9 ∧ digs s
instance (s : List UInt8) : Decidable (figOk s) := by unfold figOk; infer_instance
theorem u8sub {b : UInt8} (h1 : 48 ≤ b.toNat) : IntKind.u8.wrap ((b.toNat : Int) - 48) = ((b.toNat - 48 : Nat) : Int) := by
  have := b.toNat_lt
  rw [w8']; omega
theorem numv_take {s : List UInt8} {i : Nat} (hi : i < s.length) : numv (s.take (i + 1)) = 10 * numv (s.take i) + ((s.getD i 0).toNat - 48) := by
  rw [take_succ_d 0 hi, numv_snoc]
theorem digs_take {s : List UInt8} {i : Nat} (h : digs (s.take i)) (hi : i < s.length) (h1 : 48 ≤ (s.getD i 0).toNat) (h2 : (s.getD i 0).toNat ≤ 57) : digs (s.take (i + 1)) := by
  intro b hb
  rw [take_succ_d 0 hi, List.mem_append, List.mem_singleton] at hb
  rcases hb with hb | rfl
  · exact h b hb
  · exact ⟨h1, h2⟩
theorem digs_at {s : List UInt8} (h : digs s) {i : Nat} (hi : i < s.length) : 48 ≤ (s.getD i 0).toNat ∧ (s.getD i 0).toNat ≤ 57 := h _ (getD_mem 0 hi)
def S184 : Spec := fun args h K => ∃ s, args = [.string (str s)] ∧ s.length ≤ 10000000 ∧ K (.tuple #[.int .i64 ((if figOk s then numv s else 0 : Nat) : Int), .bool (decide (figOk s ∧ s ≠ []))]) h
theorem F184_ok {N : Num} {Γ : Ctx} [GoodC Γ] : Sat S184 (SF N Γ F184) := by
  rintro _ h K ⟨s, rfl, hsl, hK⟩
  refine i_fun rfl ?_
  simp only [F184, env0, List.map, List.length, List.replicate, List.cons_append, List.nil_append, Nat.reduceSub, Nat.reduceAdd]
  have hno : ¬ figOk s → K (.tuple #[.int .i64 0, .bool false]) h := fun hn => by
    have := hK
    rw [if_neg hn, decide_eq_false (fun h => hn h.1)] at this; exact this
  try simp (disch := first | omega | (simp only [PL]; omega)) only [PS, P1, P2, P3, P4, P5, P6, P7, P8, PA, PB, PC, Nat.reduceAdd, Nat.reduceSub, Nat.reduceMul, Nat.reduceLeDiff, Nat.reduceEqDiff, Nat.succ_ne_self, reduceCtorEq, Int.reduceToNat, Int.cast_ofNat_Int, Int.reduceEq, Int.reduceNe, Int.reduceLT, Int.reduceLE]
  refine i_loop (fun i : Nat => [some (.string (str s)), none, none, some (.int .i64 (numv (s.take i) : Nat)), some (.int .i64 (i : Nat)), none, none]) (fun i H => H = h ∧ i ≤ s.length ∧ i ≤ 9 ∧ digs (s.take i)) (fun i => s.length - i) 0 (by try simp only [Pe, and_true, true_and, and_self]; exact ⟨rfl, rfl⟩) ⟨rfl, by omega, by omega, by intro b hb; simp at hb⟩ ?_
  rintro i H ⟨rfl, hi, hi9, hd⟩
  have hwi : IntKind.i64.wrap ((i : Int) + 1) = ((i + 1 : Nat) : Int) := by rw [w64 (by omega) (by omega)]; omega
  try simp (disch := first | omega | (simp only [PL]; omega)) only [PS, P1, P2, P3, P4, P5, P6, P7, P8, PA, PB, PC, Nat.reduceAdd, Nat.reduceSub, Nat.reduceMul, Nat.reduceLeDiff, Nat.reduceEqDiff, Nat.succ_ne_self, reduceCtorEq, Int.reduceToNat, Int.cast_ofNat_Int, Int.reduceEq, Int.reduceNe, Int.reduceLT, Int.reduceLE]
  refine i_cond (fun c2 => ?_) (fun c2 => ?_)
  rotate_left
  · have : i = s.length := by omega
    subst this
    rw [List.take_length] at hd ⊢
    have hok : figOk s := ⟨hi9, hd⟩
    rw [if_pos hok] at hK
    have e : decide (figOk s ∧ s ≠ []) = decide (s ≠ []) := by simp [hok]
    rw [e] at hK
    try simp (disch := first | omega | (simp only [PL]; omega)) only [PS, P1, P2, P3, P4, P5, P6, P7, P8, PA, PB, PC, Nat.reduceAdd, Nat.reduceSub, Nat.reduceMul, Nat.reduceLeDiff, Nat.reduceEqDiff, Nat.succ_ne_self, reduceCtorEq, Int.reduceToNat, Int.cast_ofNat_Int, Int.reduceEq, Int.reduceNe, Int.reduceLT, Int.reduceLE]
    exact hK
  have hi2 : i < s.length := by omega
  have hlt := numv_lt hd
  have hpw : 10 ^ (s.take i).length ≤ 10 ^ 9 := Nat.pow_le_pow_right (by omega) (by rw [List.length_take]; omega)
  have hb := (s.getD i 0).toNat_lt
  try simp (disch := first | omega | (simp only [PL]; omega)) only [PS, P1, P2, P3, P4, P5, P6, P7, P8, PA, PB, PC, Nat.reduceAdd, Nat.reduceSub, Nat.reduceMul, Nat.reduceLeDiff, Nat.reduceEqDiff, Nat.succ_ne_self, reduceCtorEq, Int.reduceToNat, Int.cast_ofNat_Int, Int.reduceEq, Int.reduceNe, Int.reduceLT, Int.reduceLE]
  refine i_cond (fun c3 => ?_) (fun c3 => ?_)
  · try simp (disch := first | omega | (simp only [PL]; omega)) only [PS, P1, P2, P3, P4, P5, P6, P7, P8, PA, PB, PC, Nat.reduceAdd, Nat.reduceSub, Nat.reduceMul, Nat.reduceLeDiff, Nat.reduceEqDiff, Nat.succ_ne_self, reduceCtorEq, Int.reduceToNat, Int.cast_ofNat_Int, Int.reduceEq, Int.reduceNe, Int.reduceLT, Int.reduceLE]
    refine hno fun hn => ?_
    have := digs_at hn.2 hi2
    have := hn.1
    omega
  have hb1 : 48 ≤ (s.getD i 0).toNat := by omega
  have hb2 : (s.getD i 0).toNat ≤ 57 := by omega
  have hws := u8sub hb1
  have hwc : IntKind.i64.wrap (((s.getD i 0).toNat - 48 : Nat) : Int) = (((s.getD i 0).toNat - 48 : Nat) : Int) := w64 (by omega) (by omega)
  have hwm : IntKind.i64.wrap (10 * ((numv (s.take i) : Nat) : Int)) = ((10 * numv (s.take i) : Nat) : Int) := by rw [w64 (by omega) (by omega)]; omega
  have hwa : IntKind.i64.wrap (((10 * numv (s.take i) : Nat) : Int) + (((s.getD i 0).toNat - 48 : Nat) : Int)) = ((numv (s.take (i + 1)) : Nat) : Int) := by rw [numv_take hi2, w64 (by omega) (by omega)]; omega
  try simp (disch := first | omega | (simp only [PL]; omega)) only [PS, P1, P2, P3, P4, P5, P6, P7, P8, PA, PB, PC, Nat.reduceAdd, Nat.reduceSub, Nat.reduceMul, Nat.reduceLeDiff, Nat.reduceEqDiff, Nat.succ_ne_self, reduceCtorEq, Int.reduceToNat, Int.cast_ofNat_Int, Int.reduceEq, Int.reduceNe, Int.reduceLT, Int.reduceLE, hws, hwc, hwm, hwa, hwi]
  exact k_loop (i + 1) (by omega) (by try simp only [Pe, and_true, true_and, and_self]) ⟨rfl, by omega, by omega, digs_take hd hi2 hb1 hb2⟩
theorem pcs_step {c : UInt8} {s : List UInt8} {f i : Nat} (hi : i < s.length) (hf : f ≤ i) (hc : s.getD i 0 = c) (hn : c ∉ (s.take i).drop f) : pcs c (s.drop f) = (s.take i).drop f :: pcs c (s.drop (i + 1)) := by
  have e : s.drop f = (s.take i).drop f ++ c :: s.drop (i + 1) := by
    have e1 : s = s.take i ++ c :: s.drop (i + 1) := by
      conv => lhs; rw [← List.take_append_drop i s, List.drop_eq_getElem_cons hi]
      rw [← hc, List.getD_eq_getElem?_getD, List.getElem?_eq_getElem hi]; rfl
    conv => lhs; rw [e1]
    rw [List.drop_append_of_le_length (by rw [List.length_take]; omega)]
  rw [e, pcs_cons hn]
def CutI (s : List UInt8) (c : UInt8) (h : Heap) (i f : Nat) (v : Value) (H : Heap) : Prop := ∃ L, OwnS encT 1 h H v L ∧ L.length ≤ i ∧ (i ≤ s.length → f ≤ i ∧ pcs c s = L ++ pcs c (s.drop f) ∧ c ∉ (s.take i).drop f) ∧ (i = s.length + 1 → L = pcs c s)
def S183 : Spec := fun args h K => ∃ s, ∃ c : UInt8, args = [.string (str s), .int .u8 (c.toNat : Nat)] ∧ s.length ≤ 1000000 ∧ ∀ v h', OwnS encT 1 h h' v (pcs c s) → K v h'
theorem F183_ok {N : Num} {Γ : Ctx} [GoodC Γ] : Sat S183 (SF N Γ F183) := by
  rintro _ h K ⟨s, c, rfl, hsl, hK⟩
  refine i_fun rfl ?_
  simp only [F183, env0, List.map, List.length, List.replicate, List.cons_append, List.nil_append, Nat.reduceSub, Nat.reduceAdd]
  try simp (disch := first | omega | (simp only [PL]; omega)) only [PS, P1, P2, P3, P4, P5, P6, P7, P8, PA, PB, PC, Nat.reduceAdd, Nat.reduceSub, Nat.reduceMul, Nat.reduceLeDiff, Nat.reduceEqDiff, Nat.succ_ne_self, reduceCtorEq, Int.reduceToNat, Int.cast_ofNat_Int, Int.reduceEq, Int.reduceNe, Int.reduceLT, Int.reduceLE]
  refine i_loop (fun x : Nat × Nat × Value => [some (.string (str s)), some (.int .u8 (c.toNat : Nat)), none, some x.2.2, some (.int .i64 (x.2.1 : Nat)), some (.int .i64 (x.1 : Nat)), none, none, none, none, none])
    (fun x H => x.1 ≤ s.length + 1 ∧ CutI s c h x.1 x.2.1 x.2.2 H) (fun x => s.length + 1 - x.1) (0, 0, .slice none 0 0) (by dsimp only; try simp only [Pe, and_true, true_and, and_self]; simp) ⟨by dsimp only; omega, [], OwnS.nil (Heap.le.refl h), by simp, fun _ => ⟨Nat.le_refl _, by simp, by simp⟩, fun h => by dsimp only at h; omega⟩ ?_
  rintro ⟨i, f, v⟩ H ⟨hi, L, hO, hL, h1, h2⟩
  dsimp only at hi hO hL h1 h2 ⊢
  have hwi : IntKind.i64.wrap ((i : Int) + 1) = ((i + 1 : Nat) : Int) := by rw [w64 (by omega) (by omega)]; omega
  try simp (disch := first | omega | (simp only [PL]; omega)) only [PS, P1, P2, P3, P4, P5, P6, P7, P8, PA, PB, PC, Nat.reduceAdd, Nat.reduceSub, Nat.reduceMul, Nat.reduceLeDiff, Nat.reduceEqDiff, Nat.succ_ne_self, reduceCtorEq, Int.reduceToNat, Int.cast_ofNat_Int, Int.reduceEq, Int.reduceNe, Int.reduceLT, Int.reduceLE]
  refine i_cond (fun c2 => ?_) (fun c2 => ?_)
  rotate_left
  · have e := h2 (by omega)
    rw [e] at hO
    try simp (disch := first | omega | (simp only [PL]; omega)) only [PS, P1, P2, P3, P4, P5, P6, P7, P8, PA, PB, PC, Nat.reduceAdd, Nat.reduceSub, Nat.reduceMul, Nat.reduceLeDiff, Nat.reduceEqDiff, Nat.succ_ne_self, reduceCtorEq, Int.reduceToNat, Int.cast_ofNat_Int, Int.reduceEq, Int.reduceNe, Int.reduceLT, Int.reduceLE]
    exact hK v H hO
  have hi2 : i ≤ s.length := by omega
  obtain ⟨hf, hp, hnc⟩ := h1 hi2
  have O1 := hO.slb.1.one
  by_cases hci : i < s.length ∧ s.getD i 0 ≠ c
  · obtain ⟨hi3, hcn⟩ := hci
    have q1 : ((i : Int) = (s.length : Nat)) = False := by rw [eq_iff_iff]; simp; omega
    have q2 : (((s.getD i 0).toNat : Int) = (c.toNat : Nat)) = False := by
      rw [eq_iff_iff, iff_false]; intro e; exact hcn (UInt8.toNat_inj.1 (by omega))
    try simp (disch := first | omega | (simp only [PL]; omega)) only [PS, P1, P2, P3, P4, P5, P6, P7, P8, PA, PB, PC, Nat.reduceAdd, Nat.reduceSub, Nat.reduceMul, Nat.reduceLeDiff, Nat.reduceEqDiff, Nat.succ_ne_self, reduceCtorEq, Int.reduceToNat, Int.cast_ofNat_Int, Int.reduceEq, Int.reduceNe, Int.reduceLT, Int.reduceLE, q1, q2, hwi]
    refine k_loop (i + 1, f, v) (by dsimp only; omega) (by dsimp only; try simp only [Pe, and_true, true_and, and_self]) ⟨by dsimp only; omega, L, hO, by dsimp only; omega, fun _ => ⟨by dsimp only; omega, hp, ?_⟩, fun h => by dsimp only at h; omega⟩
    dsimp only
    rw [take_succ_d 0 hi3, List.drop_append_of_le_length (by rw [List.length_take]; omega), List.mem_append, List.mem_singleton, not_or]
    exact ⟨hnc, Ne.symm hcn⟩
  have hpp : pcs c (s.drop f) = (s.take i).drop f :: (if i = s.length then [] else pcs c (s.drop (i + 1))) := by
    by_cases he : i = s.length
    · rw [if_pos he]
      subst he
      rw [List.take_length] at hnc ⊢
      rw [pcs_no hnc]
    · rw [if_neg he]
      refine pcs_step (by omega) hf ?_ hnc
      exact Decidable.byContradiction fun hc => hci ⟨by omega, hc⟩
  by_cases he : i = s.length
  · have q1 : ((i : Int) = (s.length : Nat)) = True := by rw [eq_iff_iff]; simp; omega
    try simp (disch := first | omega | (simp only [PL]; omega)) only [PS, P1, P2, P3, P4, P5, P6, P7, P8, PA, PB, PC, Nat.reduceAdd, Nat.reduceSub, Nat.reduceMul, Nat.reduceLeDiff, Nat.reduceEqDiff, Nat.succ_ne_self, reduceCtorEq, Int.reduceToNat, Int.cast_ofNat_Int, Int.reduceEq, Int.reduceNe, Int.reduceLT, Int.reduceLE, q1, O1.1, O1.2]
    refine i_bslS encT 1 (fun _ => rfl) [(s.take i).drop f] (by simp [encT]) rfl (by simp [maxLen]) fun x1 H2 hle2 ho2 => ?_
    have O2 := ho2.slb.1.one
    try simp (disch := first | omega | (simp only [PL]; omega)) only [PS, P1, P2, P3, P4, P5, P6, P7, P8, PA, PB, PC, Nat.reduceAdd, Nat.reduceSub, Nat.reduceMul, Nat.reduceLeDiff, Nat.reduceEqDiff, Nat.succ_ne_self, reduceCtorEq, Int.reduceToNat, Int.cast_ofNat_Int, Int.reduceEq, Int.reduceNe, Int.reduceLT, Int.reduceLE, O2.1, O2.2]
    refine i_app (enc := encT) (sz := 1) (l := L) (l' := [(s.take i).drop f]) (fun _ => rfl) (fun _ => rfl) (OwnS.base (hO.grow hle2) (join_l _ _)) (ho2.sl (fun _ => rfl)) (by simp; omega) fun v' H3 hO3 => ?_
    try simp (disch := first | omega | (simp only [PL]; omega)) only [PS, P1, P2, P3, P4, P5, P6, P7, P8, PA, PB, PC, Nat.reduceAdd, Nat.reduceSub, Nat.reduceMul, Nat.reduceLeDiff, Nat.reduceEqDiff, Nat.succ_ne_self, reduceCtorEq, Int.reduceToNat, Int.cast_ofNat_Int, Int.reduceEq, Int.reduceNe, Int.reduceLT, Int.reduceLE, hwi]
    refine k_loop (i + 1, i + 1, v') (by dsimp only; omega) (by dsimp only; try simp only [Pe, and_true, true_and, and_self]) ⟨by dsimp only; omega, _, hO3, by dsimp only; simp; omega, fun h => by dsimp only at h; omega, fun _ => ?_⟩
    rw [hp, hpp, if_pos he]
  · have q1 : ((i : Int) = (s.length : Nat)) = False := by rw [eq_iff_iff]; simp; omega
    have hc : s.getD i 0 = c := Decidable.byContradiction fun hc => hci ⟨by omega, hc⟩
    have q2 : (((s.getD i 0).toNat : Int) = (c.toNat : Nat)) = True := by rw [hc]; simp
    try simp (disch := first | omega | (simp only [PL]; omega)) only [PS, P1, P2, P3, P4, P5, P6, P7, P8, PA, PB, PC, Nat.reduceAdd, Nat.reduceSub, Nat.reduceMul, Nat.reduceLeDiff, Nat.reduceEqDiff, Nat.succ_ne_self, reduceCtorEq, Int.reduceToNat, Int.cast_ofNat_Int, Int.reduceEq, Int.reduceNe, Int.reduceLT, Int.reduceLE, q1, q2, O1.1, O1.2]
    refine i_bslS encT 1 (fun _ => rfl) [(s.take i).drop f] (by simp [encT]) rfl (by simp [maxLen]) fun x1 H2 hle2 ho2 => ?_
    have O2 := ho2.slb.1.one
    try simp (disch := first | omega | (simp only [PL]; omega)) only [PS, P1, P2, P3, P4, P5, P6, P7, P8, PA, PB, PC, Nat.reduceAdd, Nat.reduceSub, Nat.reduceMul, Nat.reduceLeDiff, Nat.reduceEqDiff, Nat.succ_ne_self, reduceCtorEq, Int.reduceToNat, Int.cast_ofNat_Int, Int.reduceEq, Int.reduceNe, Int.reduceLT, Int.reduceLE, O2.1, O2.2]
    refine i_app (enc := encT) (sz := 1) (l := L) (l' := [(s.take i).drop f]) (fun _ => rfl) (fun _ => rfl) (OwnS.base (hO.grow hle2) (join_l _ _)) (ho2.sl (fun _ => rfl)) (by simp; omega) fun v' H3 hO3 => ?_
    try simp (disch := first | omega | (simp only [PL]; omega)) only [PS, P1, P2, P3, P4, P5, P6, P7, P8, PA, PB, PC, Nat.reduceAdd, Nat.reduceSub, Nat.reduceMul, Nat.reduceLeDiff, Nat.reduceEqDiff, Nat.succ_ne_self, reduceCtorEq, Int.reduceToNat, Int.cast_ofNat_Int, Int.reduceEq, Int.reduceNe, Int.reduceLT, Int.reduceLE, hwi]
    refine k_loop (i + 1, i + 1, v') (by dsimp only; omega) (by dsimp only; try simp only [Pe, and_true, true_and, and_self]) ⟨by dsimp only; omega, _, hO3, by dsimp only; simp; omega, fun _ => ⟨Nat.le_refl _, ?_, ?_⟩, fun h => by dsimp only at h; omega⟩
    · dsimp only
      rw [hp, hpp, if_neg he, List.append_assoc]; rfl
    · dsimp only
      simp
end Go.Cw
namespace Go.Cw
open Go
end Go.Cw
namespace Go.Cw
open Go
def S176n (T : Heap) : Spec := fun args h K => ∃ n : Nat, args = [.int .i64 (n : Nat)] ∧ n ≤ 9223372036854775807 ∧ Heap.le T h ∧ ∀ h', Heap.le h h' → K (.string (str (dec n))) h'
end Go.Cw
namespace Go.Cw
open Go
def S181 (T : Heap) : Spec := fun args h K => ∃ s, ∃ c : UInt8, args = [.string (str s), .string (str [c])] ∧ s.length ≤ 1000000 ∧ Heap.le T h ∧ ∀ v h', OwnS encT 1 h h' v (pcs c s) → K v h'
theorem pcs_mem_len {c : UInt8} : ∀ {s : List UInt8}, ∀ w ∈ pcs c s, w.length ≤ s.length := by
  intro s
  induction s with
  | nil => intro w hw; simp [pcs] at hw; subst hw; simp
  | cons x r ih =>
    intro w hw
    unfold pcs at hw
    split at hw
    · rw [List.mem_cons] at hw
      rcases hw with rfl | hw
      · simp
      · have := ih w hw; simp; omega
    · split at hw
      · rename_i hp; exact absurd hp (pcs_ne c r)
      · rename_i p q hp
        rw [hp] at ih
        rw [List.mem_cons] at hw
        rcases hw with rfl | hw
        · have := ih p (by simp); simp; omega
        · have := ih w (by simp [hw]); simp; omega
theorem pcs_len (c : UInt8) : ∀ (s : List UInt8), (pcs c s).length ≤ s.length + 1 := by
  intro s
  induction s with
  | nil => simp [pcs]
  | cons x r ih =>
    unfold pcs
    split
    · simp; omega
    · split
      · simp
      · rename_i p q hp; rw [hp] at ih; simp at ih ⊢; omega
end Go.Cw
namespace Go.Cw
open Go
end Go.Cw
namespace Go.Cw
open Go
theorem seqK_assoc {N : Num} {Γ : Ctx} {Q : SE → Env → Heap → Prop} {b c : St} : seqK N Γ (.seq b c) Q = seqK N Γ b (seqK N Γ c Q) := by
  funext e env h
  cases e <;> rfl
theorem sw_assoc {N : Num} {Γ : Ctx} {Q : SE → Env → Heap → Prop} {a b c : St} {env : Env} {h : Heap} : SW N Γ (.seq a (.seq b c)) Q env h = SW N Γ (.seq (.seq a b) c) Q env h := by
  show SW N Γ a (seqK N Γ (.seq b c) Q) env h = SW N Γ a (seqK N Γ b (seqK N Γ c Q)) env h
  rw [seqK_assoc]
theorem i_seqM {N : Num} {Γ : Ctx} [GoodC Γ] {Q : SE → Env → Heap → Prop} [MonoQ Q] (R : Env → Heap → Prop) {s b : St} {env : Env} {h : Heap} (hb : ∀ env h, R env h → SW N Γ b Q env h) (hx : SW N Γ s (meetK R Q) env h) : SW N Γ (.seq s b) Q env h := by
  show SW N Γ s (seqK N Γ b Q) env h
  exact i_meet R hb hx
end Go.Cw
namespace Go.Cw
open Go
structure Rl where
  name : List UInt8
  kind : Int
  first : Int
  thn : Int
  wout : Int
  wthn : Int
  deriving DecidableEq, Inhabited
def Rl.enc (r : Rl) : List Value := [.string (str r.name), .int .i64 r.kind, .int .i64 r.first, .int .i64 r.thn, .int .i64 r.wout, .int .i64 r.wthn]
theorem Rl.enc_len (r : Rl) : r.enc.length = 6 := rfl
def aggR (r : Rl) : Value := .agg #[.string (str r.name), .int .i64 r.kind, .int .i64 r.first, .int .i64 r.thn, .int .i64 r.wout, .int .i64 r.wthn]
def letters (s : List UInt8) : Prop := ∀ b ∈ s, 97 ≤ b.toNat ∧ b.toNat ≤ 122
instance (s : List UInt8) : Decidable (letters s) := by unfold letters; infer_instance
def nameOk (s : List UInt8) : Prop := s ≠ [] ∧ s.length ≤ 12 ∧ letters s
instance (s : List UInt8) : Decidable (nameOk s) := by unfold nameOk; infer_instance
def Rl.bound (r : Rl) : Prop := r.kind < 0 ∨ 3 < r.kind ∨ r.first < 0 ∨ 7 < r.first ∨ r.thn < 0 ∨ 7 < r.thn ∨ r.wout < -1 ∨ 7 < r.wout ∨ r.wthn < 1 ∨ 50 < r.wthn
def Rl.shape (r : Rl) : Prop := r.first = r.thn ∨ r.wout = r.first ∨ r.wout = r.thn
instance (r : Rl) : Decidable r.bound := by unfold Rl.bound; infer_instance
instance (r : Rl) : Decidable r.shape := by unfold Rl.shape; infer_instance
def ruleF (r : Rl) : Nat := if ¬ nameOk r.name then 4 else if r.bound then 1 else if r.shape then 3 else 0
theorem ruleF_zero {r : Rl} : ruleF r = 0 ↔ nameOk r.name ∧ ¬ r.bound ∧ ¬ r.shape := by
  unfold ruleF
  by_cases h1 : nameOk r.name
  · by_cases h2 : r.bound
    · simp [h1, h2]
    · by_cases h3 : r.shape <;> simp [h1, h2, h3]
  · simp [h1]
def kn (k : Int) : List UInt8 := if k = 1 then [105, 116, 101, 109] else if k = 2 then [99, 97, 115, 101] else if k = 3 then [112, 97, 108, 108, 101, 116] else [97, 110, 121]
theorem kn_no (k : Int) : (32 : UInt8) ∉ kn k := by
  unfold kn
  repeat' split
  all_goals decide
theorem kn_inj {k k' : Int} (h1 : 0 ≤ k) (h2 : k ≤ 3) (h3 : 0 ≤ k') (h4 : k' ≤ 3) (h : kn k = kn k') : k = k' := by
  unfold kn at h
  repeat' split at h
  all_goals first | omega | (simp at h; done)
def wThen : List UInt8 := [116, 104, 101, 110]
def wWithout : List UInt8 := [119, 105, 116, 104, 111, 117, 116]
def wWithin : List UInt8 := [119, 105, 116, 104, 105, 110]
def ruleW (r : Rl) : List (List UInt8) := [r.name ++ [58], kn r.kind, dec r.first.toNat, wThen, dec r.thn.toNat] ++ ((if 0 ≤ r.wout then [wWithout, dec r.wout.toNat] else []) ++ [wWithin, dec r.wthn.toNat])
def joinS (c : UInt8) : List (List UInt8) → List UInt8
  | [] => []
  | [a] => a
  | a :: b :: r => a ++ c :: joinS c (b :: r)
theorem pcs_join {c : UInt8} : ∀ (ws : List (List UInt8)), ws ≠ [] → (∀ w ∈ ws, c ∉ w) → pcs c (joinS c ws) = ws := by
  intro ws
  induction ws with
  | nil => intro h; exact absurd rfl h
  | cons a r ih =>
    intro _ h
    cases r with
    | nil => exact pcs_no (h a (by simp))
    | cons b r =>
      simp only [joinS]
      rw [pcs_cons (h a (by simp)), ih (by simp) fun w hw => h w (by simp at hw ⊢; right; exact hw)]
def ruleText (r : Rl) : List UInt8 := joinS 32 (ruleW r)
theorem ruleText_eq (r : Rl) : ruleText r = r.name ++ [58, 32] ++ kn r.kind ++ [32] ++ dec r.first.toNat ++ [32, 116, 104, 101, 110, 32] ++ dec r.thn.toNat ++ (if 0 ≤ r.wout then [32, 119, 105, 116, 104, 111, 117, 116, 32] ++ dec r.wout.toNat else []) ++ ([32, 119, 105, 116, 104, 105, 110, 32] ++ dec r.wthn.toNat) := by
  unfold ruleText ruleW
  by_cases h : 0 ≤ r.wout
  · simp [h, joinS, wThen, wWithout, wWithin]
  · simp [h, joinS, wThen, wWithout, wWithin]
theorem letters_no {s : List UInt8} (h : letters s) {c : UInt8} (hc : c.toNat < 97 ∨ 122 < c.toNat) : c ∉ s := by
  intro hm; have := h c hm; omega
theorem ruleW_no {r : Rl} (h : letters r.name) : ∀ w ∈ ruleW r, (32 : UInt8) ∉ w := by
  have hd : ∀ n, (32 : UInt8) ∉ dec n := fun n => digs_not (digs_dec n) (.inl (by decide))
  intro w hw
  unfold ruleW at hw
  simp only [List.mem_append, List.mem_cons, List.not_mem_nil, or_false] at hw
  rcases hw with (rfl | rfl | rfl | rfl | rfl) | (hw | rfl | rfl)
  · rw [List.mem_append, not_or]
    exact ⟨letters_no h (.inl (by decide)), by decide⟩
  · exact kn_no _
  · exact hd _
  · decide
  · exact hd _
  · split at hw
    · simp only [List.mem_cons, List.not_mem_nil, or_false] at hw
      rcases hw with rfl | rfl
      · decide
      · exact hd _
    · simp at hw
  · decide
  · exact hd _
theorem ruleText_pcs {r : Rl} (h : letters r.name) : pcs 32 (ruleText r) = ruleW r := pcs_join _ (by simp [ruleW]) (ruleW_no h)
theorem ruleText_inj {r q : Rl} (h1 : ruleF r = 0) (h2 : ruleF q = 0) (h : ruleText r = ruleText q) : r = q := by
  rw [ruleF_zero] at h1 h2
  obtain ⟨⟨_, _, l1⟩, b1, _⟩ := h1
  obtain ⟨⟨_, _, l2⟩, b2, _⟩ := h2
  have e := ruleText_pcs l1
  rw [h, ruleText_pcs l2] at e
  unfold Rl.bound at b1 b2
  unfold ruleW at e
  have hdi : ∀ {a b : Int}, 0 ≤ a → 0 ≤ b → dec a.toNat = dec b.toNat → a = b := fun {a b} ha hb e => by have := dec_inj e; omega
  cases r with
  | mk n k f t wo wi =>
  cases q with
  | mk n' k' f' t' wo' wi' =>
  dsimp only at *
  simp only [List.cons_append, List.nil_append, List.cons.injEq, List.append_cancel_right_eq] at e
  obtain ⟨e1, e2, e3, _, e4, e5⟩ := e
  have k1 := kn_inj (by omega) (by omega) (by omega) (by omega) e2
  have k2 := hdi (by omega) (by omega) e3
  have k3 := hdi (by omega) (by omega) e4
  subst e1 k1 k2 k3
  by_cases hw : 0 ≤ wo <;> by_cases hw' : 0 ≤ wo'
  · simp only [hw, hw', if_true, List.cons_append, List.nil_append, List.cons.injEq, and_true, true_and] at e5
    have k4 := hdi (by omega) (by omega) e5.1
    have k5 := hdi (by omega) (by omega) e5.2
    subst k4 k5; rfl
  · simp only [hw, hw', if_true, if_false, List.cons_append, List.nil_append] at e5
    have := congrArg List.length e5; simp at this
  · simp only [hw, hw', if_true, if_false, List.cons_append, List.nil_append] at e5
    have := congrArg List.length e5; simp at this
  · simp only [hw, hw', if_false, List.nil_append, List.cons.injEq, and_true, true_and] at e5
    have k5 := hdi (by omega) (by omega) e5
    have k4 : wo = wo' := by omega
    subst k4 k5; rfl
end Go.Cw
namespace Go.Cw
open Go
theorem letters_take {s : List UInt8} {i : Nat} (h : letters (s.take i)) (hi : i < s.length) (h1 : 97 ≤ (s.getD i 0).toNat) (h2 : (s.getD i 0).toNat ≤ 122) : letters (s.take (i + 1)) := by
  intro b hb
  rw [take_succ_d 0 hi, List.mem_append, List.mem_singleton] at hb
  rcases hb with hb | rfl
  · exact h b hb
  · exact ⟨h1, h2⟩
theorem letters_at {s : List UInt8} (h : letters s) {i : Nat} (hi : i < s.length) : 97 ≤ (s.getD i 0).toNat ∧ (s.getD i 0).toNat ≤ 122 := h _ (getD_mem 0 hi)
def S186 : Spec := fun args h K => ∃ s, args = [.string (str s)] ∧ s.length ≤ 10000000 ∧ K (.bool (decide (nameOk s))) h
theorem F186_ok {N : Num} {Γ : Ctx} [GoodC Γ] : Sat S186 (SF N Γ F186) := by
  rintro _ h K ⟨s, rfl, hsl, hK⟩
  refine i_fun rfl ?_
  simp only [F186, env0, List.map, List.length, List.replicate, List.cons_append, List.nil_append, Nat.reduceSub, Nat.reduceAdd]
  try simp (disch := first | omega | (simp only [PL]; omega)) only [PS, P1, P2, P3, P4, P5, P6, P7, P8, PA, PB, PC, Nat.reduceAdd, Nat.reduceSub, Nat.reduceMul, Nat.reduceLeDiff, Nat.reduceEqDiff, Nat.succ_ne_self, reduceCtorEq, Int.reduceToNat, Int.cast_ofNat_Int, Int.reduceEq, Int.reduceNe, Int.reduceLT, Int.reduceLE]
  refine i_loop (fun i : Nat => [some (.string (str s)), none, none, some (.int .i64 (s.length : Nat)), some (.int .i64 (i : Nat)), none, none]) (fun i H => H = h ∧ i ≤ s.length ∧ letters (s.take i)) (fun i => s.length - i) 0 (by try simp only [Pe, and_true, true_and, and_self]; simp) ⟨rfl, by omega, by intro b hb; simp at hb⟩ ?_
  rintro i H ⟨rfl, hi, hd⟩
  have hwi : IntKind.i64.wrap ((i : Int) + 1) = ((i + 1 : Nat) : Int) := by rw [w64 (by omega) (by omega)]; omega
  try simp (disch := first | omega | (simp only [PL]; omega)) only [PS, P1, P2, P3, P4, P5, P6, P7, P8, PA, PB, PC, Nat.reduceAdd, Nat.reduceSub, Nat.reduceMul, Nat.reduceLeDiff, Nat.reduceEqDiff, Nat.succ_ne_self, reduceCtorEq, Int.reduceToNat, Int.cast_ofNat_Int, Int.reduceEq, Int.reduceNe, Int.reduceLT, Int.reduceLE]
  refine i_cond (fun c2 => ?_) (fun c2 => ?_)
  rotate_left
  · have : i = s.length := by omega
    subst this
    rw [List.take_length] at hd
    have e : decide (nameOk s) = decide (s ≠ [] ∧ (s.length : Int) ≤ 12) := decide_eq_decide.2 ⟨fun ⟨h1, h2, _⟩ => ⟨h1, by omega⟩, fun ⟨h1, h2⟩ => ⟨h1, by omega, hd⟩⟩
    rw [e] at hK
    try simp (disch := first | omega | (simp only [PL]; omega)) only [PS, P1, P2, P3, P4, P5, P6, P7, P8, PA, PB, PC, Nat.reduceAdd, Nat.reduceSub, Nat.reduceMul, Nat.reduceLeDiff, Nat.reduceEqDiff, Nat.succ_ne_self, reduceCtorEq, Int.reduceToNat, Int.cast_ofNat_Int, Int.reduceEq, Int.reduceNe, Int.reduceLT, Int.reduceLE]
    exact hK
  have hi2 : i < s.length := by omega
  have hb := (s.getD i 0).toNat_lt
  try simp (disch := first | omega | (simp only [PL]; omega)) only [PS, P1, P2, P3, P4, P5, P6, P7, P8, PA, PB, PC, Nat.reduceAdd, Nat.reduceSub, Nat.reduceMul, Nat.reduceLeDiff, Nat.reduceEqDiff, Nat.succ_ne_self, reduceCtorEq, Int.reduceToNat, Int.cast_ofNat_Int, Int.reduceEq, Int.reduceNe, Int.reduceLT, Int.reduceLE]
  refine i_cond (fun c3 => ?_) (fun c3 => ?_)
  · have hn : ¬ nameOk s := fun hn => by
      have := letters_at hn.2.2 hi2
      omega
    rw [decide_eq_false hn] at hK
    try simp (disch := first | omega | (simp only [PL]; omega)) only [PS, P1, P2, P3, P4, P5, P6, P7, P8, PA, PB, PC, Nat.reduceAdd, Nat.reduceSub, Nat.reduceMul, Nat.reduceLeDiff, Nat.reduceEqDiff, Nat.succ_ne_self, reduceCtorEq, Int.reduceToNat, Int.cast_ofNat_Int, Int.reduceEq, Int.reduceNe, Int.reduceLT, Int.reduceLE]
    exact hK
  · try simp (disch := first | omega | (simp only [PL]; omega)) only [PS, P1, P2, P3, P4, P5, P6, P7, P8, PA, PB, PC, Nat.reduceAdd, Nat.reduceSub, Nat.reduceMul, Nat.reduceLeDiff, Nat.reduceEqDiff, Nat.succ_ne_self, reduceCtorEq, Int.reduceToNat, Int.cast_ofNat_Int, Int.reduceEq, Int.reduceNe, Int.reduceLT, Int.reduceLE, hwi]
    exact k_loop (i + 1) (by omega) (by try simp only [Pe, and_true, true_and, and_self]) ⟨rfl, by omega, letters_take hd hi2 (by omega) (by omega)⟩
def S170 (N : Num) : Spec := fun args h K => ∃ r, args = [aggR r] ∧ r.name.length ≤ 10000000 ∧ K (errV N (ruleF r)) h
theorem F170_ok {N : Num} {Γ : Ctx} [GoodC Γ] (H186 : Sat S186 (Γ 186)) : Sat (S170 N) (SF N Γ F170) := by
  rintro _ h K ⟨r, rfl, hl, hK⟩
  refine i_fun rfl ?_
  simp only [F170, env0, List.map, List.length, List.replicate, List.cons_append, List.nil_append, Nat.reduceSub, Nat.reduceAdd, aggR]
  unfold ruleF at hK
  try simp (disch := first | omega | (simp only [PL]; omega)) only [PS, P1, P2, P3, P4, P5, P6, P7, P8, PA, PB, PC, Nat.reduceAdd, Nat.reduceSub, Nat.reduceMul, Nat.reduceLeDiff, Nat.reduceEqDiff, Nat.succ_ne_self, reduceCtorEq, Int.reduceToNat, Int.cast_ofNat_Int, Int.reduceEq, Int.reduceNe, Int.reduceLT, Int.reduceLE]
  refine i_call H186 ⟨r.name, rfl, hl, ?_⟩
  by_cases hn : nameOk r.name
  rotate_left
  · rw [decide_eq_false hn]
    rw [if_pos hn, errV_succ] at hK
    try simp (disch := first | omega | (simp only [PL]; omega)) only [PS, P1, P2, P3, P4, P5, P6, P7, P8, PA, PB, PC, Nat.reduceAdd, Nat.reduceSub, Nat.reduceMul, Nat.reduceLeDiff, Nat.reduceEqDiff, Nat.succ_ne_self, reduceCtorEq, Int.reduceToNat, Int.cast_ofNat_Int, Int.reduceEq, Int.reduceNe, Int.reduceLT, Int.reduceLE]
    exact hK
  rw [decide_eq_true hn]
  rw [if_neg (by simpa using hn)] at hK
  try simp (disch := first | omega | (simp only [PL]; omega)) only [PS, P1, P2, P3, P4, P5, P6, P7, P8, PA, PB, PC, Nat.reduceAdd, Nat.reduceSub, Nat.reduceMul, Nat.reduceLeDiff, Nat.reduceEqDiff, Nat.succ_ne_self, reduceCtorEq, Int.reduceToNat, Int.cast_ofNat_Int, Int.reduceEq, Int.reduceNe, Int.reduceLT, Int.reduceLE]
  refine i_cond (fun c => ?_) (fun c => ?_)
  · have hb : r.bound := by unfold Rl.bound; omega
    rw [if_pos hb, errV_succ] at hK
    try simp (disch := first | omega | (simp only [PL]; omega)) only [PS, P1, P2, P3, P4, P5, P6, P7, P8, PA, PB, PC, Nat.reduceAdd, Nat.reduceSub, Nat.reduceMul, Nat.reduceLeDiff, Nat.reduceEqDiff, Nat.succ_ne_self, reduceCtorEq, Int.reduceToNat, Int.cast_ofNat_Int, Int.reduceEq, Int.reduceNe, Int.reduceLT, Int.reduceLE]
    exact hK
  have hb : ¬ r.bound := by unfold Rl.bound; omega
  rw [if_neg hb] at hK
  try simp (disch := first | omega | (simp only [PL]; omega)) only [PS, P1, P2, P3, P4, P5, P6, P7, P8, PA, PB, PC, Nat.reduceAdd, Nat.reduceSub, Nat.reduceMul, Nat.reduceLeDiff, Nat.reduceEqDiff, Nat.succ_ne_self, reduceCtorEq, Int.reduceToNat, Int.cast_ofNat_Int, Int.reduceEq, Int.reduceNe, Int.reduceLT, Int.reduceLE]
  refine i_cond (fun c => ?_) (fun c => ?_)
  · have hs : r.shape := by unfold Rl.shape; omega
    rw [if_pos hs, errV_succ] at hK
    try simp (disch := first | omega | (simp only [PL]; omega)) only [PS, P1, P2, P3, P4, P5, P6, P7, P8, PA, PB, PC, Nat.reduceAdd, Nat.reduceSub, Nat.reduceMul, Nat.reduceLeDiff, Nat.reduceEqDiff, Nat.succ_ne_self, reduceCtorEq, Int.reduceToNat, Int.cast_ofNat_Int, Int.reduceEq, Int.reduceNe, Int.reduceLT, Int.reduceLE]
    exact hK
  have hs : ¬ r.shape := by unfold Rl.shape; omega
  rw [if_neg hs, errV_zero] at hK
  try simp (disch := first | omega | (simp only [PL]; omega)) only [PS, P1, P2, P3, P4, P5, P6, P7, P8, PA, PB, PC, Nat.reduceAdd, Nat.reduceSub, Nat.reduceMul, Nat.reduceLeDiff, Nat.reduceEqDiff, Nat.succ_ne_self, reduceCtorEq, Int.reduceToNat, Int.cast_ofNat_Int, Int.reduceEq, Int.reduceNe, Int.reduceLT, Int.reduceLE]
  exact hK
def S168 : Spec := fun args h K => ∃ r, args = [aggR r] ∧ r.name.length ≤ 10000000 ∧ K (.int .i64 (ruleF r : Nat)) h
theorem F168_ok {N : Num} {Γ : Ctx} [GoodC Γ] : Sat S168 (SF N Γ F168) := by
  rintro _ h K ⟨r, rfl, hl, hK⟩
  refine i_fun rfl ?_
  simp only [F168, env0, List.map, List.length, List.replicate, List.cons_append, List.nil_append, Nat.reduceSub, Nat.reduceAdd, aggR]
  unfold ruleF at hK
  try simp (disch := first | omega | (simp only [PL]; omega)) only [PS, P1, P2, P3, P4, P5, P6, P7, P8, PA, PB, PC, Nat.reduceAdd, Nat.reduceSub, Nat.reduceMul, Nat.reduceLeDiff, Nat.reduceEqDiff, Nat.succ_ne_self, reduceCtorEq, Int.reduceToNat, Int.cast_ofNat_Int, Int.reduceEq, Int.reduceNe, Int.reduceLT, Int.reduceLE]
  refine i_cond (fun c => ?_) (fun c => ?_)
  · have hn : ¬ nameOk r.name := fun hn => by
      have h1 := List.length_pos_iff.2 hn.1
      have h2 := hn.2.1
      omega
    rw [if_pos hn] at hK
    try simp (disch := first | omega | (simp only [PL]; omega)) only [PS, P1, P2, P3, P4, P5, P6, P7, P8, PA, PB, PC, Nat.reduceAdd, Nat.reduceSub, Nat.reduceMul, Nat.reduceLeDiff, Nat.reduceEqDiff, Nat.succ_ne_self, reduceCtorEq, Int.reduceToNat, Int.cast_ofNat_Int, Int.reduceEq, Int.reduceNe, Int.reduceLT, Int.reduceLE]
    exact hK
  try simp (disch := first | omega | (simp only [PL]; omega)) only [PS, P1, P2, P3, P4, P5, P6, P7, P8, PA, PB, PC, Nat.reduceAdd, Nat.reduceSub, Nat.reduceMul, Nat.reduceLeDiff, Nat.reduceEqDiff, Nat.succ_ne_self, reduceCtorEq, Int.reduceToNat, Int.cast_ofNat_Int, Int.reduceEq, Int.reduceNe, Int.reduceLT, Int.reduceLE]
  refine i_loop (fun i : Nat => [none, some (.agg #[.string (str r.name), .int .i64 r.kind, .int .i64 r.first, .int .i64 r.thn, .int .i64 r.wout, .int .i64 r.wthn]), none, some (.int .i64 (i : Nat)), none, none, none, none, none]) (fun i H => H = h ∧ i ≤ r.name.length ∧ letters (r.name.take i)) (fun i => r.name.length - i) 0 (by try simp only [Pe, and_true, true_and, and_self]; simp) ⟨rfl, by omega, by intro b hb; simp at hb⟩ ?_
  rintro i H ⟨rfl, hi, hd⟩
  have hwi : IntKind.i64.wrap ((i : Int) + 1) = ((i + 1 : Nat) : Int) := by rw [w64 (by omega) (by omega)]; omega
  try simp (disch := first | omega | (simp only [PL]; omega)) only [PS, P1, P2, P3, P4, P5, P6, P7, P8, PA, PB, PC, Nat.reduceAdd, Nat.reduceSub, Nat.reduceMul, Nat.reduceLeDiff, Nat.reduceEqDiff, Nat.succ_ne_self, reduceCtorEq, Int.reduceToNat, Int.cast_ofNat_Int, Int.reduceEq, Int.reduceNe, Int.reduceLT, Int.reduceLE]
  refine i_cond (fun c2 => ?_) (fun c2 => ?_)
  · have hi2 : i < r.name.length := by omega
    have hb := (r.name.getD i 0).toNat_lt
    try simp (disch := first | omega | (simp only [PL]; omega)) only [PS, P1, P2, P3, P4, P5, P6, P7, P8, PA, PB, PC, Nat.reduceAdd, Nat.reduceSub, Nat.reduceMul, Nat.reduceLeDiff, Nat.reduceEqDiff, Nat.succ_ne_self, reduceCtorEq, Int.reduceToNat, Int.cast_ofNat_Int, Int.reduceEq, Int.reduceNe, Int.reduceLT, Int.reduceLE]
    refine i_cond (fun c3 => ?_) (fun c3 => ?_)
    · have hn : ¬ nameOk r.name := fun hn => by
        have := letters_at hn.2.2 hi2
        omega
      rw [if_pos hn] at hK
      try simp (disch := first | omega | (simp only [PL]; omega)) only [PS, P1, P2, P3, P4, P5, P6, P7, P8, PA, PB, PC, Nat.reduceAdd, Nat.reduceSub, Nat.reduceMul, Nat.reduceLeDiff, Nat.reduceEqDiff, Nat.succ_ne_self, reduceCtorEq, Int.reduceToNat, Int.cast_ofNat_Int, Int.reduceEq, Int.reduceNe, Int.reduceLT, Int.reduceLE]
      exact hK
    · try simp (disch := first | omega | (simp only [PL]; omega)) only [PS, P1, P2, P3, P4, P5, P6, P7, P8, PA, PB, PC, Nat.reduceAdd, Nat.reduceSub, Nat.reduceMul, Nat.reduceLeDiff, Nat.reduceEqDiff, Nat.succ_ne_self, reduceCtorEq, Int.reduceToNat, Int.cast_ofNat_Int, Int.reduceEq, Int.reduceNe, Int.reduceLT, Int.reduceLE, hwi]
      exact k_loop (i + 1) (by omega) (by try simp only [Pe, and_true, true_and, and_self]) ⟨rfl, by omega, letters_take hd hi2 (by omega) (by omega)⟩
  have : i = r.name.length := by omega
  subst this
  rw [List.take_length] at hd
  have hn : nameOk r.name := ⟨fun e => c (.inl (by rw [e]; decide)), by omega, hd⟩
  rw [if_neg (by simpa using hn)] at hK
  try simp (disch := first | omega | (simp only [PL]; omega)) only [PS, P1, P2, P3, P4, P5, P6, P7, P8, PA, PB, PC, Nat.reduceAdd, Nat.reduceSub, Nat.reduceMul, Nat.reduceLeDiff, Nat.reduceEqDiff, Nat.succ_ne_self, reduceCtorEq, Int.reduceToNat, Int.cast_ofNat_Int, Int.reduceEq, Int.reduceNe, Int.reduceLT, Int.reduceLE]
  refine i_cond (fun c => ?_) (fun c => ?_)
  · have hb : r.bound := by unfold Rl.bound; omega
    rw [if_pos hb] at hK
    try simp (disch := first | omega | (simp only [PL]; omega)) only [PS, P1, P2, P3, P4, P5, P6, P7, P8, PA, PB, PC, Nat.reduceAdd, Nat.reduceSub, Nat.reduceMul, Nat.reduceLeDiff, Nat.reduceEqDiff, Nat.succ_ne_self, reduceCtorEq, Int.reduceToNat, Int.cast_ofNat_Int, Int.reduceEq, Int.reduceNe, Int.reduceLT, Int.reduceLE]
    exact hK
  have hb : ¬ r.bound := by unfold Rl.bound; omega
  rw [if_neg hb] at hK
  try simp (disch := first | omega | (simp only [PL]; omega)) only [PS, P1, P2, P3, P4, P5, P6, P7, P8, PA, PB, PC, Nat.reduceAdd, Nat.reduceSub, Nat.reduceMul, Nat.reduceLeDiff, Nat.reduceEqDiff, Nat.succ_ne_self, reduceCtorEq, Int.reduceToNat, Int.cast_ofNat_Int, Int.reduceEq, Int.reduceNe, Int.reduceLT, Int.reduceLE]
  refine i_cond (fun c => ?_) (fun c => ?_)
  · have hs : r.shape := by unfold Rl.shape; omega
    rw [if_pos hs] at hK
    try simp (disch := first | omega | (simp only [PL]; omega)) only [PS, P1, P2, P3, P4, P5, P6, P7, P8, PA, PB, PC, Nat.reduceAdd, Nat.reduceSub, Nat.reduceMul, Nat.reduceLeDiff, Nat.reduceEqDiff, Nat.succ_ne_self, reduceCtorEq, Int.reduceToNat, Int.cast_ofNat_Int, Int.reduceEq, Int.reduceNe, Int.reduceLT, Int.reduceLE]
    exact hK
  have hs : ¬ r.shape := by unfold Rl.shape; omega
  rw [if_neg hs] at hK
  try simp (disch := first | omega | (simp only [PL]; omega)) only [PS, P1, P2, P3, P4, P5, P6, P7, P8, PA, PB, PC, Nat.reduceAdd, Nat.reduceSub, Nat.reduceMul, Nat.reduceLeDiff, Nat.reduceEqDiff, Nat.succ_ne_self, reduceCtorEq, Int.reduceToNat, Int.cast_ofNat_Int, Int.reduceEq, Int.reduceNe, Int.reduceLT, Int.reduceLE]
  exact hK
def kindsV : Value := .agg #[.string (str [97, 110, 121]), .string (str [105, 116, 101, 109]), .string (str [99, 97, 115, 101]), .string (str [112, 97, 108, 108, 101, 116])]
def S185 : Spec := fun args h K => args = [] ∧ K kindsV h
theorem F185_ok {N : Num} {Γ : Ctx} [GoodC Γ] : Sat S185 (SF N Γ F185) := by
  rintro _ h K ⟨rfl, hK⟩
  refine i_fun rfl ?_
  simp only [F185, env0, List.map, List.length, List.replicate, List.cons_append, List.nil_append, Nat.reduceSub, Nat.reduceAdd]
  try simp (disch := first | omega | (simp only [PL]; omega)) only [PS, P1, P2, P3, P4, P5, P6, P7, P8, PA, PB, PC, Nat.reduceAdd, Nat.reduceSub, Nat.reduceMul, Nat.reduceLeDiff, Nat.reduceEqDiff, Nat.succ_ne_self, reduceCtorEq, Int.reduceToNat, Int.cast_ofNat_Int, Int.reduceEq, Int.reduceNe, Int.reduceLT, Int.reduceLE]
  exact hK
def S187 : Spec := S185
theorem F187_ok {N : Num} {Γ : Ctx} [GoodC Γ] : Sat S187 (SF N Γ F187) := by
  rintro _ h K ⟨rfl, hK⟩
  refine i_fun rfl ?_
  simp only [F187, env0, List.map, List.length, List.replicate, List.cons_append, List.nil_append, Nat.reduceSub, Nat.reduceAdd]
  try simp (disch := first | omega | (simp only [PL]; omega)) only [PS, P1, P2, P3, P4, P5, P6, P7, P8, PA, PB, PC, Nat.reduceAdd, Nat.reduceSub, Nat.reduceMul, Nat.reduceLeDiff, Nat.reduceEqDiff, Nat.succ_ne_self, reduceCtorEq, Int.reduceToNat, Int.cast_ofNat_Int, Int.reduceEq, Int.reduceNe, Int.reduceLT, Int.reduceLE]
  exact hK
theorem kinds_at {k : Int} (h1 : 0 ≤ k) (h2 : k ≤ 3) (h : Heap) (ik : IntKind) : o2V h (.vidx 4) (.v kindsV) (.v (.int ik k)) = some (.v (.string (str (kn k)))) := by
  have := P3.2.2.2.2.2.1 h 4 #[.string (str [97, 110, 121]), .string (str [105, 116, 101, 109]), .string (str [99, 97, 115, 101]), .string (str [112, 97, 108, 108, 101, 116])] ik k h1 (by omega)
  unfold kindsV
  rw [this]
  have hk : k = 0 ∨ k = 1 ∨ k = 2 ∨ k = 3 := by omega
  rcases hk with rfl | rfl | rfl | rfl <;> rfl
theorem kn_len (k : Int) : (kn k).length ≤ 6 := by
  unfold kn
  repeat' split
  all_goals decide
end Go.Cw
namespace Go.Cw
open Go
def S169 (T : Heap) (N : Num) : Spec := fun args h K => ∃ r, args = [aggR r] ∧ r.name.length ≤ 10000000 ∧ Heap.le T h ∧ (ruleF r ≠ 0 → ∀ h', Heap.le h h' → K (.tuple #[.string (str []), errV N (ruleF r)]) h') ∧ (ruleF r = 0 → ∀ h', Heap.le h h' → K (.tuple #[.string (str (ruleText r)), .nilIface]) h')
theorem F169_ok {N : Num} {Γ : Ctx} [GoodC Γ] {T : Heap} (H170 : Sat (S170 N) (Γ 170)) (H185 : Sat S185 (Γ 185)) (H176 : Sat (S176n T) (Γ 176)) : Sat (S169 T N) (SF N Γ F169) := by
  rintro _ h K ⟨r, rfl, hl, hT, hK1, hK2⟩
  refine i_fun rfl ?_
  simp only [F169, env0, List.map, List.length, List.replicate, List.cons_append, List.nil_append, Nat.reduceSub, Nat.reduceAdd, aggR]
  try simp (disch := first | omega | (simp only [PL]; omega)) only [PS, P1, P2, P3, P4, P5, P6, P7, P8, PA, PB, PC, Nat.reduceAdd, Nat.reduceSub, Nat.reduceMul, Nat.reduceLeDiff, Nat.reduceEqDiff, Nat.succ_ne_self, reduceCtorEq, Int.reduceToNat, Int.cast_ofNat_Int, Int.reduceEq, Int.reduceNe, Int.reduceLT, Int.reduceLE]
  refine i_call H170 ⟨r, rfl, hl, ?_⟩
  by_cases hf : ruleF r = 0
  rotate_left
  · have hK := hK1 hf
    obtain ⟨f, hf'⟩ : ∃ f, ruleF r = f + 1 := ⟨ruleF r - 1, by omega⟩
    rw [hf'] at hK ⊢
    try simp (disch := first | omega | (simp only [PL]; omega)) only [PS, P1, P2, P3, P4, P5, P6, P7, P8, PA, PB, PC, Nat.reduceAdd, Nat.reduceSub, Nat.reduceMul, Nat.reduceLeDiff, Nat.reduceEqDiff, Nat.succ_ne_self, reduceCtorEq, Int.reduceToNat, Int.cast_ofNat_Int, Int.reduceEq, Int.reduceNe, Int.reduceLT, Int.reduceLE, errV_succ]
    rw [errV_succ] at hK
    exact hK h (Heap.le.refl h)
  have hK := hK2 hf
  clear hK1 hK2
  rw [hf]
  have hz := (ruleF_zero.1 hf)
  obtain ⟨⟨hn1, hn2, hn3⟩, hb, _⟩ := hz
  unfold Rl.bound at hb
  obtain ⟨fn, hfn⟩ : ∃ n : Nat, r.first = n := ⟨r.first.toNat, by omega⟩
  obtain ⟨tn, htn⟩ : ∃ n : Nat, r.thn = n := ⟨r.thn.toNat, by omega⟩
  obtain ⟨wn, hwn⟩ : ∃ n : Nat, r.wthn = n := ⟨r.wthn.toNat, by omega⟩
  rw [ruleText_eq] at hK
  simp only [hfn, htn, hwn, Int.toNat_natCast] at hK
  have hkv := kinds_at (k := r.kind) (by omega) (by omega)
  unfold kindsV at hkv
  have l1 := kn_len r.kind
  have l2 := dec_len 19 (n := fn) (by omega) (by omega)
  have l3 := dec_len 19 (n := tn) (by omega) (by omega)
  have l4 := dec_len 19 (n := wn) (by omega) (by omega)
  rw [hfn, htn, hwn]
  try simp (disch := first | omega | (simp only [PL]; omega)) only [PS, P1, P2, P3, P4, P5, P6, P7, P8, PA, PB, PC, Nat.reduceAdd, Nat.reduceSub, Nat.reduceMul, Nat.reduceLeDiff, Nat.reduceEqDiff, Nat.succ_ne_self, reduceCtorEq, Int.reduceToNat, Int.cast_ofNat_Int, Int.reduceEq, Int.reduceNe, Int.reduceLT, Int.reduceLE, errV_zero]
  refine i_call H185 ⟨rfl, ?_⟩
  refine i_le (le_one (Heap.le.refl _)) ?_
  unfold kindsV
  try simp (disch := first | omega | (simp only [PL]; omega)) only [PS, P1, P2, P3, P4, P5, P6, P7, P8, PA, PB, PC, Nat.reduceAdd, Nat.reduceSub, Nat.reduceMul, Nat.reduceLeDiff, Nat.reduceEqDiff, Nat.succ_ne_self, reduceCtorEq, Int.reduceToNat, Int.cast_ofNat_Int, Int.reduceEq, Int.reduceNe, Int.reduceLT, Int.reduceLE, hkv]
  refine i_call H176 ⟨fn, rfl, by omega, hT, fun h3 hle3 => ?_⟩
  try simp (disch := first | omega | (simp only [PL]; omega)) only [PS, P1, P2, P3, P4, P5, P6, P7, P8, PA, PB, PC, Nat.reduceAdd, Nat.reduceSub, Nat.reduceMul, Nat.reduceLeDiff, Nat.reduceEqDiff, Nat.succ_ne_self, reduceCtorEq, Int.reduceToNat, Int.cast_ofNat_Int, Int.reduceEq, Int.reduceNe, Int.reduceLT, Int.reduceLE]
  refine i_lew (le_one hle3) ?_
  try simp (disch := first | omega | (simp only [PL]; omega)) only [PS, P1, P2, P3, P4, P5, P6, P7, P8, PA, PB, PC, Nat.reduceAdd, Nat.reduceSub, Nat.reduceMul, Nat.reduceLeDiff, Nat.reduceEqDiff, Nat.succ_ne_self, reduceCtorEq, Int.reduceToNat, Int.cast_ofNat_Int, Int.reduceEq, Int.reduceNe, Int.reduceLT, Int.reduceLE]
  refine i_call H176 ⟨tn, rfl, by omega, hT.trans hle3, fun h4 hle4 => ?_⟩
  have hle04 := hle3.trans hle4
  try simp (disch := first | omega | (simp only [PL]; omega)) only [PS, P1, P2, P3, P4, P5, P6, P7, P8, PA, PB, PC, Nat.reduceAdd, Nat.reduceSub, Nat.reduceMul, Nat.reduceLeDiff, Nat.reduceEqDiff, Nat.succ_ne_self, reduceCtorEq, Int.reduceToNat, Int.cast_ofNat_Int, Int.reduceEq, Int.reduceNe, Int.reduceLT, Int.reduceLE]
  refine i_lew (le_one hle04) ?_
  try simp (disch := first | omega | (simp only [PL]; omega)) only [PS, P1, P2, P3, P4, P5, P6, P7, P8, PA, PB, PC, Nat.reduceAdd, Nat.reduceSub, Nat.reduceMul, Nat.reduceLeDiff, Nat.reduceEqDiff, Nat.succ_ne_self, reduceCtorEq, Int.reduceToNat, Int.cast_ofNat_Int, Int.reduceEq, Int.reduceNe, Int.reduceLT, Int.reduceLE]
  by_cases hw : 0 ≤ r.wout
  · rw [if_pos hw] at hK
    obtain ⟨on, hon⟩ : ∃ n : Nat, r.wout = n := ⟨r.wout.toNat, by omega⟩
    have l5 := dec_len 19 (n := on) (by omega) (by omega)
    have hc : (0 ≤ ((on : Nat) : Int)) = True := by rw [eq_iff_iff]; simp
    simp only [hon, Int.toNat_natCast] at hK
    rw [hon]
    try simp (disch := first | omega | (simp only [PL]; omega)) only [PS, P1, P2, P3, P4, P5, P6, P7, P8, PA, PB, PC, Nat.reduceAdd, Nat.reduceSub, Nat.reduceMul, Nat.reduceLeDiff, Nat.reduceEqDiff, Nat.succ_ne_self, reduceCtorEq, Int.reduceToNat, Int.cast_ofNat_Int, Int.reduceEq, Int.reduceNe, Int.reduceLT, Int.reduceLE, hc]
    refine i_call H176 ⟨on, rfl, by omega, hT.trans hle04, fun h5 hle5 => ?_⟩
    try simp (disch := first | omega | (simp only [PL]; omega)) only [PS, P1, P2, P3, P4, P5, P6, P7, P8, PA, PB, PC, Nat.reduceAdd, Nat.reduceSub, Nat.reduceMul, Nat.reduceLeDiff, Nat.reduceEqDiff, Nat.succ_ne_self, reduceCtorEq, Int.reduceToNat, Int.cast_ofNat_Int, Int.reduceEq, Int.reduceNe, Int.reduceLT, Int.reduceLE]
    refine i_call H176 ⟨wn, rfl, by omega, hT.trans (hle04.trans hle5), fun h6 hle6 => ?_⟩
    have := hK h6 (hle04.trans (hle5.trans hle6))
    simp only [List.append_assoc, List.cons_append, List.nil_append] at this
    try simp (disch := first | omega | (simp only [PL]; omega)) only [PS, P1, P2, P3, P4, P5, P6, P7, P8, PA, PB, PC, Nat.reduceAdd, Nat.reduceSub, Nat.reduceMul, Nat.reduceLeDiff, Nat.reduceEqDiff, Nat.succ_ne_self, reduceCtorEq, Int.reduceToNat, Int.cast_ofNat_Int, Int.reduceEq, Int.reduceNe, Int.reduceLT, Int.reduceLE]
    simp only [List.append_assoc, List.cons_append, List.nil_append]
    exact this
  · rw [if_neg hw] at hK
    have hc : (0 ≤ r.wout) = False := by rw [eq_iff_iff]; simp; omega
    try simp (disch := first | omega | (simp only [PL]; omega)) only [PS, P1, P2, P3, P4, P5, P6, P7, P8, PA, PB, PC, Nat.reduceAdd, Nat.reduceSub, Nat.reduceMul, Nat.reduceLeDiff, Nat.reduceEqDiff, Nat.succ_ne_self, reduceCtorEq, Int.reduceToNat, Int.cast_ofNat_Int, Int.reduceEq, Int.reduceNe, Int.reduceLT, Int.reduceLE, hc]
    refine i_call H176 ⟨wn, rfl, by omega, hT.trans hle04, fun h6 hle6 => ?_⟩
    have := hK h6 (hle04.trans hle6)
    simp only [List.append_assoc, List.cons_append, List.nil_append] at this
    try simp (disch := first | omega | (simp only [PL]; omega)) only [PS, P1, P2, P3, P4, P5, P6, P7, P8, PA, PB, PC, Nat.reduceAdd, Nat.reduceSub, Nat.reduceMul, Nat.reduceLeDiff, Nat.reduceEqDiff, Nat.succ_ne_self, reduceCtorEq, Int.reduceToNat, Int.cast_ofNat_Int, Int.reduceEq, Int.reduceNe, Int.reduceLT, Int.reduceLE]
    simp only [List.append_assoc, List.cons_append, List.nil_append]
    exact this
def S171 : Spec := fun args h K => ∃ r, args = [aggR r] ∧ ruleF r = 0 ∧ ∀ h', Heap.le h h' → K (.string (str (ruleText r))) h'
theorem F171_ok {N : Num} {Γ : Ctx} [GoodC Γ] (H187 : Sat S187 (Γ 187)) (H85 : Sat S85 (Γ 85)) : Sat S171 (SF N Γ F171) := by
  rintro _ h K ⟨r, rfl, hf, hK⟩
  refine i_fun rfl ?_
  simp only [F171, env0, List.map, List.length, List.replicate, List.cons_append, List.nil_append, Nat.reduceSub, Nat.reduceAdd, aggR]
  have hz := (ruleF_zero.1 hf)
  obtain ⟨⟨hn1, hn2, hn3⟩, hb, _⟩ := hz
  unfold Rl.bound at hb
  obtain ⟨fn, hfn⟩ : ∃ n : Nat, r.first = n := ⟨r.first.toNat, by omega⟩
  obtain ⟨tn, htn⟩ : ∃ n : Nat, r.thn = n := ⟨r.thn.toNat, by omega⟩
  obtain ⟨wn, hwn⟩ : ∃ n : Nat, r.wthn = n := ⟨r.wthn.toNat, by omega⟩
  rw [ruleText_eq] at hK
  simp only [hfn, htn, hwn, Int.toNat_natCast] at hK
  have hkv := kinds_at (k := r.kind) (by omega) (by omega)
  unfold kindsV at hkv
  have l1 := kn_len r.kind
  have l2 := dec_len 19 (n := fn) (by omega) (by omega)
  have l3 := dec_len 19 (n := tn) (by omega) (by omega)
  have l4 := dec_len 19 (n := wn) (by omega) (by omega)
  rw [hfn, htn, hwn]
  try simp (disch := first | omega | (simp only [PL]; omega)) only [PS, P1, P2, P3, P4, P5, P6, P7, P8, PA, PB, PC, Nat.reduceAdd, Nat.reduceSub, Nat.reduceMul, Nat.reduceLeDiff, Nat.reduceEqDiff, Nat.succ_ne_self, reduceCtorEq, Int.reduceToNat, Int.cast_ofNat_Int, Int.reduceEq, Int.reduceNe, Int.reduceLT, Int.reduceLE]
  refine i_call H187 ⟨rfl, ?_⟩
  refine i_le (le_one (Heap.le.refl _)) ?_
  unfold kindsV
  try simp (disch := first | omega | (simp only [PL]; omega)) only [PS, P1, P2, P3, P4, P5, P6, P7, P8, PA, PB, PC, Nat.reduceAdd, Nat.reduceSub, Nat.reduceMul, Nat.reduceLeDiff, Nat.reduceEqDiff, Nat.succ_ne_self, reduceCtorEq, Int.reduceToNat, Int.cast_ofNat_Int, Int.reduceEq, Int.reduceNe, Int.reduceLT, Int.reduceLE, hkv]
  refine i_call H85 ⟨fn, rfl, by omega, fun h3 hle3 => ?_⟩
  try simp (disch := first | omega | (simp only [PL]; omega)) only [PS, P1, P2, P3, P4, P5, P6, P7, P8, PA, PB, PC, Nat.reduceAdd, Nat.reduceSub, Nat.reduceMul, Nat.reduceLeDiff, Nat.reduceEqDiff, Nat.succ_ne_self, reduceCtorEq, Int.reduceToNat, Int.cast_ofNat_Int, Int.reduceEq, Int.reduceNe, Int.reduceLT, Int.reduceLE]
  refine i_lew (le_one hle3) ?_
  try simp (disch := first | omega | (simp only [PL]; omega)) only [PS, P1, P2, P3, P4, P5, P6, P7, P8, PA, PB, PC, Nat.reduceAdd, Nat.reduceSub, Nat.reduceMul, Nat.reduceLeDiff, Nat.reduceEqDiff, Nat.succ_ne_self, reduceCtorEq, Int.reduceToNat, Int.cast_ofNat_Int, Int.reduceEq, Int.reduceNe, Int.reduceLT, Int.reduceLE]
  refine i_call H85 ⟨tn, rfl, by omega, fun h4 hle4 => ?_⟩
  have hle04 := hle3.trans hle4
  try simp (disch := first | omega | (simp only [PL]; omega)) only [PS, P1, P2, P3, P4, P5, P6, P7, P8, PA, PB, PC, Nat.reduceAdd, Nat.reduceSub, Nat.reduceMul, Nat.reduceLeDiff, Nat.reduceEqDiff, Nat.succ_ne_self, reduceCtorEq, Int.reduceToNat, Int.cast_ofNat_Int, Int.reduceEq, Int.reduceNe, Int.reduceLT, Int.reduceLE]
  refine i_lew (le_one hle04) ?_
  try simp (disch := first | omega | (simp only [PL]; omega)) only [PS, P1, P2, P3, P4, P5, P6, P7, P8, PA, PB, PC, Nat.reduceAdd, Nat.reduceSub, Nat.reduceMul, Nat.reduceLeDiff, Nat.reduceEqDiff, Nat.succ_ne_self, reduceCtorEq, Int.reduceToNat, Int.cast_ofNat_Int, Int.reduceEq, Int.reduceNe, Int.reduceLT, Int.reduceLE]
  by_cases hw : 0 ≤ r.wout
  · rw [if_pos hw] at hK
    obtain ⟨on, hon⟩ : ∃ n : Nat, r.wout = n := ⟨r.wout.toNat, by omega⟩
    have l5 := dec_len 19 (n := on) (by omega) (by omega)
    have hc : (0 ≤ ((on : Nat) : Int)) = True := by rw [eq_iff_iff]; simp
    simp only [hon, Int.toNat_natCast] at hK
    rw [hon]
    try simp (disch := first | omega | (simp only [PL]; omega)) only [PS, P1, P2, P3, P4, P5, P6, P7, P8, PA, PB, PC, Nat.reduceAdd, Nat.reduceSub, Nat.reduceMul, Nat.reduceLeDiff, Nat.reduceEqDiff, Nat.succ_ne_self, reduceCtorEq, Int.reduceToNat, Int.cast_ofNat_Int, Int.reduceEq, Int.reduceNe, Int.reduceLT, Int.reduceLE, hc]
    refine i_call H85 ⟨on, rfl, by omega, fun h5 hle5 => ?_⟩
    try simp (disch := first | omega | (simp only [PL]; omega)) only [PS, P1, P2, P3, P4, P5, P6, P7, P8, PA, PB, PC, Nat.reduceAdd, Nat.reduceSub, Nat.reduceMul, Nat.reduceLeDiff, Nat.reduceEqDiff, Nat.succ_ne_self, reduceCtorEq, Int.reduceToNat, Int.cast_ofNat_Int, Int.reduceEq, Int.reduceNe, Int.reduceLT, Int.reduceLE]
    refine i_call H85 ⟨wn, rfl, by omega, fun h6 hle6 => ?_⟩
    have := hK h6 (hle04.trans (hle5.trans hle6))
    simp only [List.append_assoc, List.cons_append, List.nil_append] at this
    try simp (disch := first | omega | (simp only [PL]; omega)) only [PS, P1, P2, P3, P4, P5, P6, P7, P8, PA, PB, PC, Nat.reduceAdd, Nat.reduceSub, Nat.reduceMul, Nat.reduceLeDiff, Nat.reduceEqDiff, Nat.succ_ne_self, reduceCtorEq, Int.reduceToNat, Int.cast_ofNat_Int, Int.reduceEq, Int.reduceNe, Int.reduceLT, Int.reduceLE]
    simp only [List.append_assoc, List.cons_append, List.nil_append]
    exact this
  · rw [if_neg hw] at hK
    have hc : (0 ≤ r.wout) = False := by rw [eq_iff_iff]; simp; omega
    try simp (disch := first | omega | (simp only [PL]; omega)) only [PS, P1, P2, P3, P4, P5, P6, P7, P8, PA, PB, PC, Nat.reduceAdd, Nat.reduceSub, Nat.reduceMul, Nat.reduceLeDiff, Nat.reduceEqDiff, Nat.succ_ne_self, reduceCtorEq, Int.reduceToNat, Int.cast_ofNat_Int, Int.reduceEq, Int.reduceNe, Int.reduceLT, Int.reduceLE, hc]
    refine i_call H85 ⟨wn, rfl, by omega, fun h6 hle6 => ?_⟩
    have := hK h6 (hle04.trans hle6)
    simp only [List.append_assoc, List.cons_append, List.nil_append] at this
    try simp (disch := first | omega | (simp only [PL]; omega)) only [PS, P1, P2, P3, P4, P5, P6, P7, P8, PA, PB, PC, Nat.reduceAdd, Nat.reduceSub, Nat.reduceMul, Nat.reduceLeDiff, Nat.reduceEqDiff, Nat.succ_ne_self, reduceCtorEq, Int.reduceToNat, Int.cast_ofNat_Int, Int.reduceEq, Int.reduceNe, Int.reduceLT, Int.reduceLE]
    simp only [List.append_assoc, List.cons_append, List.nil_append]
    exact this
theorem aggR_same (h : Heap) (r : Rl) (b : Bool) : o2V h (.eqv (.flat [.str, .int, .int, .int, .int, .int]) b) (.v (aggR r)) (.v (aggR r)) = some (.v (.bool (!b))) := by
  have key : cellsEq [.str, .int, .int, .int, .int, .int] [.string (str r.name), .int .i64 r.kind, .int .i64 r.first, .int .i64 r.thn, .int .i64 r.wout, .int .i64 r.wthn] [.string (str r.name), .int .i64 r.kind, .int .i64 r.first, .int .i64 r.thn, .int .i64 r.wout, .int .i64 r.wthn] = some true := by
    simp only [cellsEq_int, cellsEq_str, cellsEq_nil, if_true]
  simp only [o2V, aggR, eqV]
  rw [key]; cases b <;> rfl
end Go.Cw
namespace Go.Cw
open Go
def S190 (T : Heap) : Spec := fun args h K => ∃ s, args = [.string (str s)] ∧ s.length ≤ 1000000 ∧ Heap.le T h ∧ ∀ h' (z : Int) e, Heap.le h h' → (∀ n, s = dec n → n ≤ 1000000000000000 → z = (n : Nat) ∧ e = .nilIface) → (e = .nilIface ∨ ∃ t a, e = .iface t a) → K (.tuple #[.int .i64 z, e]) h'
def trimC (c : UInt8) (s : List UInt8) : List UInt8 := if s.getLast? = some c then s.dropLast else s
def S191 : Spec := fun args h K => ∃ s, ∃ c : UInt8, args = [.string (str s), .string (str [c])] ∧ s.length ≤ 1000000 ∧ ∀ h', Heap.le h h' → K (.string (str (trimC c s))) h'
theorem trimC_snoc (c : UInt8) (s : List UInt8) : trimC c (s ++ [c]) = s := by simp [trimC]
theorem trimC_len (c : UInt8) (s : List UInt8) : (trimC c s).length ≤ s.length := by unfold trimC; split <;> simp
def S188 : Spec := fun args h K => ∃ g b5 b3 v w, ∃ k : Nat, args = [.pointer (some ⟨b5, 0, none⟩), .pointer (some ⟨b3, 0, none⟩)] ∧ Heap.le g h ∧ g b5 = none ∧ g.cell ⟨b3, 0, none⟩ = some v ∧ Sl encT g v w ∧ w.length ≤ 10000000 ∧ objAt h ⟨b5, 0, none⟩ [.int .i64 (k : Nat)] ∧ k ≤ w.length ∧
  ∀ h', but b5 h h' → objAt h' ⟨b5, 0, none⟩ [.int .i64 (min (k + 1) w.length : Nat)] → K (.string (str (w.getD k []))) h'
theorem F188_ok {N : Num} {Γ : Ctx} [GoodC Γ] : Sat S188 (SF N Γ F188) := by
  rintro _ h K ⟨g, b5, b3, v, w, k, rfl, hg, hgb, hc, hS, hwl, ho, hk, hK⟩
  refine i_fun rfl ?_
  simp only [F188, env0, List.map, List.length, List.replicate, List.cons_append, List.nil_append, Nat.reduceSub, Nat.reduceAdd]
  have C5 : h.cell ⟨b5, 0, none⟩ = some (.int .i64 (k : Nat)) := ho.rules.2.1 (by simp)
  have C3 := cell_hmono hg hc
  have R := (hS.le hg).rules1 (fun t => .string (str t)) (fun _ => rfl) default
  try simp (disch := first | omega | (simp only [PL]; omega)) only [PS, P1, P2, P3, P4, P5, P6, P7, P8, PA, PB, PC, Nat.reduceAdd, Nat.reduceSub, Nat.reduceMul, Nat.reduceLeDiff, Nat.reduceEqDiff, Nat.succ_ne_self, reduceCtorEq, Int.reduceToNat, Int.cast_ofNat_Int, Int.reduceEq, Int.reduceNe, Int.reduceLT, Int.reduceLE, C5, C3, R]
  refine i_cond (fun c => ?_) (fun c => ?_)
  · have hkl : k = w.length := by omega
    have e1 : min (k + 1) w.length = k := by omega
    have e2 : w.getD k [] = [] := by rw [List.getD_eq_getElem?_getD, List.getElem?_eq_none (by omega)]; rfl
    rw [e1, e2] at hK
    try simp (disch := first | omega | (simp only [PL]; omega)) only [PS, P1, P2, P3, P4, P5, P6, P7, P8, PA, PB, PC, Nat.reduceAdd, Nat.reduceSub, Nat.reduceMul, Nat.reduceLeDiff, Nat.reduceEqDiff, Nat.succ_ne_self, reduceCtorEq, Int.reduceToNat, Int.cast_ofNat_Int, Int.reduceEq, Int.reduceNe, Int.reduceLT, Int.reduceLE]
    exact hK h (fun x _ => rfl) ho
  have hk2 : k < w.length := by omega
  have hw1 : IntKind.i64.wrap ((k : Int) + 1) = ((k + 1 : Nat) : Int) := by rw [w64 (by omega) (by omega)]; omega
  have hw2 : IntKind.i64.wrap (((k + 1 : Nat) : Int) - 1) = (k : Nat) := by rw [w64 (by omega) (by omega)]; omega
  try simp (disch := first | omega | (simp only [PL]; omega)) only [PS, P1, P2, P3, P4, P5, P6, P7, P8, PA, PB, PC, Nat.reduceAdd, Nat.reduceSub, Nat.reduceMul, Nat.reduceLeDiff, Nat.reduceEqDiff, Nat.succ_ne_self, reduceCtorEq, Int.reduceToNat, Int.cast_ofNat_Int, Int.reduceEq, Int.reduceNe, Int.reduceLT, Int.reduceLE, C5, hw1]
  refine i_st ho 0 1 rfl rfl (by omega) (by simp) fun o hob _ => ?_
  have hob2 : objAt (h.set b5 o) ⟨b5, 0, none⟩ [.int .i64 (k + 1 : Nat)] := hob h rfl
  have hbut : but b5 h (h.set b5 o) := fun x hx => Heap.set_ne hx
  have hg2 : Heap.le g (h.set b5 o) := but.le hg hgb hbut
  have e1 : min (k + 1) w.length = k + 1 := by omega
  rw [e1] at hK
  generalize h.set b5 o = h2 at *
  have D5 : h2.cell ⟨b5, 0, none⟩ = some (.int .i64 (k + 1 : Nat)) := hob2.rules.2.1 (by simp)
  have D3 := cell_hmono hg2 hc
  have R2 := (hS.le hg2).rules1 (fun t => .string (str t)) (fun _ => rfl) default
  have hd : w.getD k default = w.getD k [] := rfl
  try simp (disch := first | omega | (simp only [PL]; omega)) only [PS, P1, P2, P3, P4, P5, P6, P7, P8, PA, PB, PC, Nat.reduceAdd, Nat.reduceSub, Nat.reduceMul, Nat.reduceLeDiff, Nat.reduceEqDiff, Nat.succ_ne_self, reduceCtorEq, Int.reduceToNat, Int.cast_ofNat_Int, Int.reduceEq, Int.reduceNe, Int.reduceLT, Int.reduceLE, D5, D3, R2, hw2, hd]
  exact hK h2 hbut hob2
def S189 (T : Heap) (N : Num) : Spec := fun args h K => ∃ g b6 b5 b3 v w, ∃ k : Nat, args = [.pointer (some ⟨b6, 0, none⟩)] ∧ Heap.le g h ∧ g b5 = none ∧ g.cell ⟨b6, 0, none⟩ = some (.func (.func (N.fid 188)) #[] #[.pointer (some ⟨b5, 0, none⟩), .pointer (some ⟨b3, 0, none⟩)]) ∧ g.cell ⟨b3, 0, none⟩ = some v ∧ Sl encT g v w ∧ w.length ≤ 10000000 ∧ (∀ x ∈ w, x.length ≤ 1000000) ∧ objAt h ⟨b5, 0, none⟩ [.int .i64 (k : Nat)] ∧ k ≤ w.length ∧ Heap.le T g ∧
  ∀ h' (z : Int), Heap.le g h' → objAt h' ⟨b5, 0, none⟩ [.int .i64 (min (k + 1) w.length : Nat)] → (∀ n, w.getD k [] = dec n → n ≤ 1000000000000000 → z = (n : Nat)) → K (.int .i64 z) h'
theorem F189_ok {N : Num} {Γ : Ctx} [GoodC Γ] {T : Heap} (H188 : Sat S188 (Γ 188)) (H190 : Sat (S190 T) (Γ 190)) : Sat (S189 T N) (SF N Γ F189) := by
  rintro _ h K ⟨g, b6, b5, b3, v, w, k, rfl, hg, hgb, hc6, hc, hS, hwl, hwx, ho, hk, hT, hK⟩
  refine i_fun rfl ?_
  simp only [F189, env0, List.map, List.length, List.replicate, List.cons_append, List.nil_append, Nat.reduceSub, Nat.reduceAdd]
  have C6 := cell_hmono hg hc6
  have hwk : (w.getD k []).length ≤ 1000000 := by
    by_cases hk2 : k < w.length
    · exact hwx _ (getD_mem [] hk2)
    · rw [List.getD_eq_getElem?_getD, List.getElem?_eq_none (by omega)]; simp
  try simp (disch := first | omega | (simp only [PL]; omega)) only [PS, P1, P2, P3, P4, P5, P6, P7, P8, PA, PB, PC, Nat.reduceAdd, Nat.reduceSub, Nat.reduceMul, Nat.reduceLeDiff, Nat.reduceEqDiff, Nat.succ_ne_self, reduceCtorEq, Int.reduceToNat, Int.cast_ofNat_Int, Int.reduceEq, Int.reduceNe, Int.reduceLT, Int.reduceLE, C6]
  refine i_cal H188 ⟨g, b5, b3, v, w, k, rfl, hg, hgb, hc, hS, hwl, ho, hk, fun h1 hbut ho1 => ?_⟩
  have hg1 : Heap.le g h1 := but.le hg hgb hbut
  try simp (disch := first | omega | (simp only [PL]; omega)) only [PS, P1, P2, P3, P4, P5, P6, P7, P8, PA, PB, PC, Nat.reduceAdd, Nat.reduceSub, Nat.reduceMul, Nat.reduceLeDiff, Nat.reduceEqDiff, Nat.succ_ne_self, reduceCtorEq, Int.reduceToNat, Int.cast_ofNat_Int, Int.reduceEq, Int.reduceNe, Int.reduceLT, Int.reduceLE]
  refine i_call H190 ⟨w.getD k [], rfl, hwk, hT.trans hg1, fun h2 z e hle2 hz he => ?_⟩
  rcases he with rfl | ⟨t, a, rfl⟩
  · try simp (disch := first | omega | (simp only [PL]; omega)) only [PS, P1, P2, P3, P4, P5, P6, P7, P8, PA, PB, PC, Nat.reduceAdd, Nat.reduceSub, Nat.reduceMul, Nat.reduceLeDiff, Nat.reduceEqDiff, Nat.succ_ne_self, reduceCtorEq, Int.reduceToNat, Int.cast_ofNat_Int, Int.reduceEq, Int.reduceNe, Int.reduceLT, Int.reduceLE]
    exact hK h2 z (hg1.trans hle2) (ho1.le hle2) fun n h1 h2 => (hz n h1 h2).1
  · try simp (disch := first | omega | (simp only [PL]; omega)) only [PS, P1, P2, P3, P4, P5, P6, P7, P8, PA, PB, PC, Nat.reduceAdd, Nat.reduceSub, Nat.reduceMul, Nat.reduceLeDiff, Nat.reduceEqDiff, Nat.succ_ne_self, reduceCtorEq, Int.reduceToNat, Int.cast_ofNat_Int, Int.reduceEq, Int.reduceNe, Int.reduceLT, Int.reduceLE]
    refine hK h2 (-2) (hg1.trans hle2) (ho1.le hle2) fun n h1 h2 => ?_
    have := (hz n h1 h2).2
    cases this
def kidxF (s : List UInt8) : Nat → Int
  | 0 => -1
  | i + 1 => if kn (i : Nat) = s then (i : Nat) else kidxF s i
theorem kidxF_kn {k : Int} (h1 : 0 ≤ k) (h2 : k ≤ 3) : kidxF (kn k) 4 = k := by
  have hk : k = 0 ∨ k = 1 ∨ k = 2 ∨ k = 3 := by omega
  rcases hk with rfl | rfl | rfl | rfl <;> rfl
theorem getD_min (w : List (List UInt8)) (k : Nat) : w.getD (min k w.length) [] = w.getD k [] := by
  by_cases h : k ≤ w.length
  · rw [Nat.min_eq_left h]
  · rw [Nat.min_eq_right (by omega), List.getD_eq_getElem?_getD, List.getD_eq_getElem?_getD, List.getElem?_eq_none (by omega), List.getElem?_eq_none (by omega)]
theorem min_succ (k l : Nat) : min (min k l + 1) l = min (k + 1) l := by omega
end Go.Cw
namespace Go.Cw
open Go
structure PaS (N : Num) (T g H : Heap) (b6 b5 b3 : Nat) (v : Value) (w : List (List UInt8)) (k : Nat) : Prop where
  hg : Heap.le g H
  hgb : g b5 = none
  c6 : g.cell ⟨b6, 0, none⟩ = some (.func (.func (N.fid 188)) #[] #[.pointer (some ⟨b5, 0, none⟩), .pointer (some ⟨b3, 0, none⟩)])
  c3 : g.cell ⟨b3, 0, none⟩ = some v
  S : Sl encT g v w
  wl : w.length ≤ 10000000
  wx : ∀ x ∈ w, x.length ≤ 1000000
  o : objAt H ⟨b5, 0, none⟩ [.int .i64 (min k w.length : Nat)]
  hT : Heap.le T g
section
variable {N : Num} {Γ : Ctx} {T g H H' : Heap} {b6 b5 b3 : Nat} {v : Value} {w : List (List UInt8)} {k : Nat}
theorem PaS.more (p : PaS N T g H b6 b5 b3 v w k) (hl : Heap.le H H') : PaS N T g H' b6 b5 b3 v w k := { p with hg := p.hg.trans hl, o := p.o.le hl }
theorem PaS.f6 (p : PaS N T g H b6 b5 b3 v w k) : H.cell ⟨b6, 0, none⟩ = some (.func (.func (N.fid 188)) #[] #[.pointer (some ⟨b5, 0, none⟩), .pointer (some ⟨b3, 0, none⟩)]) := cell_hmono p.hg p.c6
theorem i_word (p : PaS N T g H b6 b5 b3 v w k) (H188 : Sat S188 (Γ 188)) {K : Value → Heap → Prop} (hK : ∀ h', PaS N T g h' b6 b5 b3 v w (k + 1) → K (.string (str (w.getD k []))) h') : efW N Γ .cal [.func (.func (N.fid 188)) #[] #[.pointer (some ⟨b5, 0, none⟩), .pointer (some ⟨b3, 0, none⟩)]] H K := by
  refine i_cal H188 ⟨g, b5, b3, v, w, min k w.length, rfl, p.hg, p.hgb, p.c3, p.S, p.wl, p.o, Nat.min_le_right _ _, fun h1 hbut ho1 => ?_⟩
  rw [getD_min]
  rw [min_succ] at ho1
  exact hK h1 { p with hg := but.le p.hg p.hgb hbut, o := ho1 }
theorem i_num (p : PaS N T g H b6 b5 b3 v w k) (H189 : Sat (S189 T N) (Γ 189)) {K : Value → Heap → Prop} (hK : ∀ h' (z : Int), PaS N T g h' b6 b5 b3 v w (k + 1) → (∀ n, w.getD k [] = dec n → n ≤ 1000000000000000 → z = (n : Nat)) → K (.int .i64 z) h') : efW N Γ .cal [.func (.func (N.fid 189)) #[] #[.pointer (some ⟨b6, 0, none⟩)]] H K := by
  refine i_cal H189 ⟨g, b6, b5, b3, v, w, min k w.length, rfl, p.hg, p.hgb, p.c6, p.c3, p.S, p.wl, p.wx, p.o, Nat.min_le_right _ _, p.hT, fun h1 z hg1 ho1 hz => ?_⟩
  rw [getD_min] at hz
  rw [min_succ] at ho1
  exact hK h1 z { p with hg := hg1, o := ho1 } hz
end
theorem rule_read {r : Rl} {s : List UInt8} (h : ruleF r = 0) (hs : ruleText r = s) : pcs 32 s = ruleW r := by
  subst hs; exact ruleText_pcs (ruleF_zero.1 h).1.2.2
def S172 (T : Heap) (N : Num) : Spec := fun args h K => ∃ s, args = [.string (str s)] ∧ s.length ≤ 1000000 ∧ Heap.le T h ∧
  (∀ r : Rl, ruleF r = 0 → ruleText r = s → ∀ h', Heap.le h h' → K (.tuple #[aggR r, .nilIface]) h') ∧ ((∀ r : Rl, ruleF r = 0 → ruleText r ≠ s) → ∀ h', Heap.le h h' → K (.tuple #[aggR ⟨[], 0, 0, 0, 0, 0⟩, errV N 4]) h')
theorem F172_ok {N : Num} {Γ : Ctx} [GoodC Γ] {T : Heap} (H181 : Sat (S181 T) (Γ 181)) (H188 : Sat S188 (Γ 188)) (H189 : Sat (S189 T N) (Γ 189)) (H191 : Sat S191 (Γ 191)) (H185 : Sat S185 (Γ 185)) (H169 : Sat (S169 T N) (Γ 169)) : Sat (S172 T N) (SF N Γ F172) := by
  rintro _ h K ⟨s, rfl, hsl, hT, hK1, hK2⟩
  simp only [errV_succ, aggR] at hK1 hK2
  refine i_fun rfl ?_
  simp only [F172, env0, List.map, List.length, List.replicate, List.cons_append, List.nil_append, Nat.reduceSub, Nat.reduceAdd]
  have hrd : ∀ r : Rl, ruleF r = 0 → ruleText r = s → _ := fun r h1 h2 => rule_read h1 h2
  try simp (disch := first | omega | (simp only [PL]; omega)) only [PS, P1, P2, P3, P4, P5, P6, P7, P8, PA, PB, PC, Nat.reduceAdd, Nat.reduceSub, Nat.reduceMul, Nat.reduceLeDiff, Nat.reduceEqDiff, Nat.succ_ne_self, reduceCtorEq, Int.reduceToNat, Int.cast_ofNat_Int, Int.reduceEq, Int.reduceNe, Int.reduceLT, Int.reduceLE]
  refine i_call H181 ⟨s, 32, rfl, hsl, hT, fun v h1 ho1 => ?_⟩
  have hle1 := ho1.1
  have hS := ho1.sl (enc := encT) (fun _ => rfl)
  have hwm := pcs_mem_len (c := 32) (s := s)
  have hwl := pcs_len 32 s
  obtain ⟨w, hw⟩ : ∃ w, w = pcs 32 s := ⟨_, rfl⟩
  rw [← hw] at hS hwm hwl hrd
  have O1 := hS.one
  clear ho1
  try simp (disch := first | omega | (simp only [PL]; omega)) only [PS, P1, P2, P3, P4, P5, P6, P7, P8, PA, PB, PC, Nat.reduceAdd, Nat.reduceSub, Nat.reduceMul, Nat.reduceLeDiff, Nat.reduceEqDiff, Nat.succ_ne_self, reduceCtorEq, Int.reduceToNat, Int.cast_ofNat_Int, Int.reduceEq, Int.reduceNe, Int.reduceLT, Int.reduceLE]
  refine i_newO fun b3 h2 hle2 hb3 ho3 => ?_
  try simp (disch := first | omega | (simp only [PL]; omega)) only [PS, P1, P2, P3, P4, P5, P6, P7, P8, PA, PB, PC, Nat.reduceAdd, Nat.reduceSub, Nat.reduceMul, Nat.reduceLeDiff, Nat.reduceEqDiff, Nat.succ_ne_self, reduceCtorEq, Int.reduceToNat, Int.cast_ofNat_Int, Int.reduceEq, Int.reduceNe, Int.reduceLT, Int.reduceLE, O1.1, O1.2]
  have ho3' : objAt h2 ⟨b3, 0, none⟩ [.slice none 0 0] := ho3.le (fr_le h1 h2)
  refine i_st ho3' 0 1 (by rw [O1.2]; rfl) (by rw [O1.2]; simp [O1.1]) (by omega) (by simp) fun o3 hob3 _ => ?_
  have q3 : objAt (h2.set b3 o3) ⟨b3, 0, none⟩ [v] := by have := hob3 h2 rfl; simpa [O1.2] using this
  have hle3 : Heap.le h1 (h2.set b3 o3) := but.le (b := b3) hle2 hb3 fun x hx => Heap.set_ne hx
  generalize h2.set b3 o3 = h3 at *
  clear ho3 ho3' hob3
  try simp (disch := first | omega | (simp only [PL]; omega)) only [PS, P1, P2, P3, P4, P5, P6, P7, P8, PA, PB, PC, Nat.reduceAdd, Nat.reduceSub, Nat.reduceMul, Nat.reduceLeDiff, Nat.reduceEqDiff, Nat.succ_ne_self, reduceCtorEq, Int.reduceToNat, Int.cast_ofNat_Int, Int.reduceEq, Int.reduceNe, Int.reduceLT, Int.reduceLE]
  refine i_newO fun b5 h4 hle4 hb5 ho5 => ?_
  try simp (disch := first | omega | (simp only [PL]; omega)) only [PS, P1, P2, P3, P4, P5, P6, P7, P8, PA, PB, PC, Nat.reduceAdd, Nat.reduceSub, Nat.reduceMul, Nat.reduceLeDiff, Nat.reduceEqDiff, Nat.succ_ne_self, reduceCtorEq, Int.reduceToNat, Int.cast_ofNat_Int, Int.reduceEq, Int.reduceNe, Int.reduceLT, Int.reduceLE]
  refine i_st (ho5.le (fr_le h3 h4)) 0 1 rfl rfl (by omega) (Nat.le_refl 1) fun o5 hob5 _ => ?_
  have q5 : objAt (h4.set b5 o5) ⟨b5, 0, none⟩ [.int .i64 0] := hob5 h4 rfl
  have hle5 : Heap.le h3 (h4.set b5 o5) := but.le (b := b5) hle4 hb5 fun x hx => Heap.set_ne hx
  generalize h4.set b5 o5 = h5 at *
  clear ho5 hob5
  try simp (disch := first | omega | (simp only [PL]; omega)) only [PS, P1, P2, P3, P4, P5, P6, P7, P8, PA, PB, PC, Nat.reduceAdd, Nat.reduceSub, Nat.reduceMul, Nat.reduceLeDiff, Nat.reduceEqDiff, Nat.succ_ne_self, reduceCtorEq, Int.reduceToNat, Int.cast_ofNat_Int, Int.reduceEq, Int.reduceNe, Int.reduceLT, Int.reduceLE]
  refine i_newO fun b6 h6 hle6 hb6 ho6 => ?_
  try simp (disch := first | omega | (simp only [PL]; omega)) only [PS, P1, P2, P3, P4, P5, P6, P7, P8, PA, PB, PC, Nat.reduceAdd, Nat.reduceSub, Nat.reduceMul, Nat.reduceLeDiff, Nat.reduceEqDiff, Nat.succ_ne_self, reduceCtorEq, Int.reduceToNat, Int.cast_ofNat_Int, Int.reduceEq, Int.reduceNe, Int.reduceLT, Int.reduceLE]
  refine i_st (ho6.le (fr_le h5 h6)) 0 1 rfl rfl (by omega) (Nat.le_refl 1) fun o6 hob6 _ => ?_
  have q6 : objAt (h6.set b6 o6) ⟨b6, 0, none⟩ [.func (.func (N.fid 188)) #[] #[.pointer (some ⟨b5, 0, none⟩), .pointer (some ⟨b3, 0, none⟩)]] := hob6 h6 rfl
  have hle7 : Heap.le h5 (h6.set b6 o6) := but.le (b := b6) hle6 hb6 fun x hx => Heap.set_ne hx
  generalize h6.set b6 o6 = h7 at *
  clear ho6 hob6
  obtain ⟨g, hge⟩ : ∃ g : Heap, g = fun x => if x = b5 then none else h7 x := ⟨_, rfl⟩
  have hgH : Heap.le g h7 := by
    intro x o hx; rw [hge] at hx; dsimp only at hx; split at hx
    · cases hx
    · exact hx
  have h35 : b3 ≠ b5 := by
    rintro rfl
    obtain ⟨_, c, t, q, _⟩ := q3
    dsimp only at q
    rw [q] at hb5; cases hb5
  have h65 : b6 ≠ b5 := by
    rintro rfl
    obtain ⟨_, c, t, q, _⟩ := q5
    dsimp only at q
    rw [q] at hb6; cases hb6
  have hlow : ∀ x : Heap, Heap.le x h3 → x b5 = none → Heap.le x g := fun x hx hn y o hy => by
    rw [hge]; dsimp only
    rw [if_neg (by rintro rfl; rw [hn] at hy; cases hy)]
    exact hle7 y o (hle5 y o (hx y o hy))
  have hg1 : Heap.le h1 g := hlow h1 hle3 (le_none hle3 b5 hb5)
  have hg3 : Heap.le h3 g := hlow h3 (Heap.le.refl h3) hb5
  have hgh : Heap.le h g := hle1.trans hg1
  have p0 : PaS N T g h7 b6 b5 b3 v w 0 := by
    refine ⟨hgH, by rw [hge]; simp, ?_, (q3.le hg3).rules.2.1 (by simp), hS.le hg1, by omega, fun x hx => Nat.le_trans (hwm x hx) hsl, ?_, hT.trans hgh⟩
    · have := q6.rules.2.1 (by simp)
      rw [hge]
      simpa [Heap.cell, Heap.cells, h65] using this
    · have := q5.le hle7
      simpa using this
  clear hS hle1 hle2 hle3 hle4 hle5 hle6 hle7 q3 q5 q6 hlow hg1 hg3 hgH h35 h65 hge
  have e6 := p0.f6
  try simp (disch := first | omega | (simp only [PL]; omega)) only [PS, P1, P2, P3, P4, P5, P6, P7, P8, PA, PB, PC, Nat.reduceAdd, Nat.reduceSub, Nat.reduceMul, Nat.reduceLeDiff, Nat.reduceEqDiff, Nat.succ_ne_self, reduceCtorEq, Int.reduceToNat, Int.cast_ofNat_Int, Int.reduceEq, Int.reduceNe, Int.reduceLT, Int.reduceLE, e6]
  refine i_word p0 H188 fun h8 p1 => ?_
  have hw0 := p0.wx
  have hwk : ∀ k, (w.getD k []).length ≤ 1000000 := fun k => by
    by_cases hk2 : k < w.length
    · exact hw0 _ (getD_mem [] hk2)
    · rw [List.getD_eq_getElem?_getD, List.getElem?_eq_none (by omega)]; simp
  have htl := trimC_len 58 (w.getD 0 [])
  have hwk0 := hwk 0
  try simp (disch := first | omega | (simp only [PL]; omega)) only [PS, P1, P2, P3, P4, P5, P6, P7, P8, PA, PB, PC, Nat.reduceAdd, Nat.reduceSub, Nat.reduceMul, Nat.reduceLeDiff, Nat.reduceEqDiff, Nat.succ_ne_self, reduceCtorEq, Int.reduceToNat, Int.cast_ofNat_Int, Int.reduceEq, Int.reduceNe, Int.reduceLT, Int.reduceLE]
  refine i_call H191 ⟨w.getD 0 [], 58, rfl, hwk 0, fun h9 hle9 => ?_⟩
  have p1' := p1.more hle9
  have e6 := p1'.f6
  try simp (disch := first | omega | (simp only [PL]; omega)) only [PS, P1, P2, P3, P4, P5, P6, P7, P8, PA, PB, PC, Nat.reduceAdd, Nat.reduceSub, Nat.reduceMul, Nat.reduceLeDiff, Nat.reduceEqDiff, Nat.succ_ne_self, reduceCtorEq, Int.reduceToNat, Int.cast_ofNat_Int, Int.reduceEq, Int.reduceNe, Int.reduceLT, Int.reduceLE, e6]
  refine i_word p1' H188 fun h10 p2 => ?_
  try simp (disch := first | omega | (simp only [PL]; omega)) only [PS, P1, P2, P3, P4, P5, P6, P7, P8, PA, PB, PC, Nat.reduceAdd, Nat.reduceSub, Nat.reduceMul, Nat.reduceLeDiff, Nat.reduceEqDiff, Nat.succ_ne_self, reduceCtorEq, Int.reduceToNat, Int.cast_ofNat_Int, Int.reduceEq, Int.reduceNe, Int.reduceLT, Int.reduceLE]
  refine i_call H185 ⟨rfl, ?_⟩
  have hkv := fun (i : Nat) (hi : i < 4) (H : Heap) (ik : IntKind) => kinds_at (k := (i : Int)) (by omega) (by omega) H ik
  unfold kindsV at hkv ⊢
  try simp (disch := first | omega | (simp only [PL]; omega)) only [PS, P1, P2, P3, P4, P5, P6, P7, P8, PA, PB, PC, Nat.reduceAdd, Nat.reduceSub, Nat.reduceMul, Nat.reduceLeDiff, Nat.reduceEqDiff, Nat.succ_ne_self, reduceCtorEq, Int.reduceToNat, Int.cast_ofNat_Int, Int.reduceEq, Int.reduceNe, Int.reduceLT, Int.reduceLE]
  refine i_meet_blk (fun env H => PaS N T g H b6 b5 b3 v w 2 ∧ env = [some (.string (str s)), some (.agg #[.string (str []), .int .i64 0, .int .i64 0, .int .i64 0, .int .i64 0, .int .i64 0]), none, none, some (.agg #[.string (str (trimC 58 (w.getD 0 []))), .int .i64 (kidxF (w.getD 1 []) 4), .int .i64 0, .int .i64 0, .int .i64 (-1), .int .i64 0]), none, some (.pointer (some ⟨b6, 0, none⟩)), some (.func (.func (N.fid 189)) #[] #[.pointer (some ⟨b6, 0, none⟩)]), none, none, none, none, none, none, none, none, none, none, none, none, none, none, none, none, none, none, none, none, none, none, none, none]) ?_ ?_
  rotate_left
  · refine i_loop (fun i : Nat => [some (.string (str s)), some (.agg #[.string (str []), .int .i64 0, .int .i64 0, .int .i64 0, .int .i64 0, .int .i64 0]), none, none, some (.agg #[.string (str (trimC 58 (w.getD 0 []))), .int .i64 (kidxF (w.getD 1 []) i), .int .i64 0, .int .i64 0, .int .i64 (-1), .int .i64 0]), none, some (.pointer (some ⟨b6, 0, none⟩)), some (.func (.func (N.fid 189)) #[] #[.pointer (some ⟨b6, 0, none⟩)]), some (.string (str (w.getD 1 []))), none, none, none, none, none, none, none, none, none, none, some (.agg #[.string (str [97, 110, 121]), .string (str [105, 116, 101, 109]), .string (str [99, 97, 115, 101]), .string (str [112, 97, 108, 108, 101, 116])]), some (.int .i64 (i : Nat)), none, none, none, none, none, none, none, none, none, none, none]) (fun i H => PaS N T g H b6 b5 b3 v w 2 ∧ i ≤ 4) (fun i => 4 - i) 0 (by try simp only [Pe, and_true, true_and, and_self]; simp [kidxF]) ⟨p2, by omega⟩ ?_
    clear p0 p1 p1' p2
    rintro i H ⟨p, hi⟩
    have hwi : IntKind.i64.wrap ((i : Int) + 1) = ((i + 1 : Nat) : Int) := by rw [w64 (by omega) (by omega)]; omega
    try simp (disch := first | omega | (simp only [PL]; omega)) only [PS, P1, P2, P3, P4, P5, P6, P7, P8, PA, PB, PC, Nat.reduceAdd, Nat.reduceSub, Nat.reduceMul, Nat.reduceLeDiff, Nat.reduceEqDiff, Nat.succ_ne_self, reduceCtorEq, Int.reduceToNat, Int.cast_ofNat_Int, Int.reduceEq, Int.reduceNe, Int.reduceLT, Int.reduceLE]
    refine i_cond (fun c => ?_) (fun c => ?_)
    rotate_left
    · have : i = 4 := by omega
      subst this
      try simp (disch := first | omega | (simp only [PL]; omega)) only [PS, P1, P2, P3, P4, P5, P6, P7, P8, PA, PB, PC, Nat.reduceAdd, Nat.reduceSub, Nat.reduceMul, Nat.reduceLeDiff, Nat.reduceEqDiff, Nat.succ_ne_self, reduceCtorEq, Int.reduceToNat, Int.cast_ofNat_Int, Int.reduceEq, Int.reduceNe, Int.reduceLT, Int.reduceLE]
      exact k_meet _ (by try simp only [Pe, and_true, true_and, and_self]) ⟨p, rfl⟩
    have hi2 : i < 4 := by omega
    have hki := hkv i hi2
    try simp (disch := first | omega | (simp only [PL]; omega)) only [PS, P1, P2, P3, P4, P5, P6, P7, P8, PA, PB, PC, Nat.reduceAdd, Nat.reduceSub, Nat.reduceMul, Nat.reduceLeDiff, Nat.reduceEqDiff, Nat.succ_ne_self, reduceCtorEq, Int.reduceToNat, Int.cast_ofNat_Int, Int.reduceEq, Int.reduceNe, Int.reduceLT, Int.reduceLE, hki]
    refine i_cond (fun c2 => ?_) (fun c2 => ?_)
    · have e : kidxF (w.getD 1 []) (i + 1) = (i : Nat) := by simp only [kidxF, if_pos c2]
      try simp (disch := first | omega | (simp only [PL]; omega)) only [PS, P1, P2, P3, P4, P5, P6, P7, P8, PA, PB, PC, Nat.reduceAdd, Nat.reduceSub, Nat.reduceMul, Nat.reduceLeDiff, Nat.reduceEqDiff, Nat.succ_ne_self, reduceCtorEq, Int.reduceToNat, Int.cast_ofNat_Int, Int.reduceEq, Int.reduceNe, Int.reduceLT, Int.reduceLE, hwi]
      exact k_loop (i + 1) (by omega) (by rw [e]; try simp only [Pe, and_true, true_and, and_self]) ⟨p, by omega⟩
    · have e : kidxF (w.getD 1 []) (i + 1) = kidxF (w.getD 1 []) i := by simp only [kidxF, if_neg c2]
      try simp (disch := first | omega | (simp only [PL]; omega)) only [PS, P1, P2, P3, P4, P5, P6, P7, P8, PA, PB, PC, Nat.reduceAdd, Nat.reduceSub, Nat.reduceMul, Nat.reduceLeDiff, Nat.reduceEqDiff, Nat.succ_ne_self, reduceCtorEq, Int.reduceToNat, Int.cast_ofNat_Int, Int.reduceEq, Int.reduceNe, Int.reduceLT, Int.reduceLE, hwi]
      exact k_loop (i + 1) (by omega) (by rw [e]; try simp only [Pe, and_true, true_and, and_self]) ⟨p, by omega⟩
  clear p0 p1 p1' p2
  rintro env H ⟨p2, rfl⟩
  try simp (disch := first | omega | (simp only [PL]; omega)) only [PS, P1, P2, P3, P4, P5, P6, P7, P8, PA, PB, PC, Nat.reduceAdd, Nat.reduceSub, Nat.reduceMul, Nat.reduceLeDiff, Nat.reduceEqDiff, Nat.succ_ne_self, reduceCtorEq, Int.reduceToNat, Int.cast_ofNat_Int, Int.reduceEq, Int.reduceNe, Int.reduceLT, Int.reduceLE]
  refine i_num p2 H189 fun h11 z2 p3 hz2 => ?_
  have e6 := p3.f6
  try simp (disch := first | omega | (simp only [PL]; omega)) only [PS, P1, P2, P3, P4, P5, P6, P7, P8, PA, PB, PC, Nat.reduceAdd, Nat.reduceSub, Nat.reduceMul, Nat.reduceLeDiff, Nat.reduceEqDiff, Nat.succ_ne_self, reduceCtorEq, Int.reduceToNat, Int.cast_ofNat_Int, Int.reduceEq, Int.reduceNe, Int.reduceLT, Int.reduceLE, e6]
  refine i_word p3 H188 fun h12 p4 => ?_
  try simp (disch := first | omega | (simp only [PL]; omega)) only [PS, P1, P2, P3, P4, P5, P6, P7, P8, PA, PB, PC, Nat.reduceAdd, Nat.reduceSub, Nat.reduceMul, Nat.reduceLeDiff, Nat.reduceEqDiff, Nat.succ_ne_self, reduceCtorEq, Int.reduceToNat, Int.cast_ofNat_Int, Int.reduceEq, Int.reduceNe, Int.reduceLT, Int.reduceLE]
  refine i_num p4 H189 fun h13 z4 p5 hz4 => ?_
  have e6 := p5.f6
  try simp (disch := first | omega | (simp only [PL]; omega)) only [PS, P1, P2, P3, P4, P5, P6, P7, P8, PA, PB, PC, Nat.reduceAdd, Nat.reduceSub, Nat.reduceMul, Nat.reduceLeDiff, Nat.reduceEqDiff, Nat.succ_ne_self, reduceCtorEq, Int.reduceToNat, Int.cast_ofNat_Int, Int.reduceEq, Int.reduceNe, Int.reduceLT, Int.reduceLE, e6]
  refine i_word p5 H188 fun h14 p6 => ?_
  try simp (disch := first | omega | (simp only [PL]; omega)) only [PS, P1, P2, P3, P4, P5, P6, P7, P8, PA, PB, PC, Nat.reduceAdd, Nat.reduceSub, Nat.reduceMul, Nat.reduceLeDiff, Nat.reduceEqDiff, Nat.succ_ne_self, reduceCtorEq, Int.reduceToNat, Int.cast_ofNat_Int, Int.reduceEq, Int.reduceNe, Int.reduceLT, Int.reduceLE]
  have fin : ∀ (wo wi : Int) (H : Heap), Heap.le g H → (∀ r : Rl, ruleF r = 0 → ruleText r = s → wo = r.wout ∧ wi = r.wthn) → ∀ r : Rl, ruleF r = 0 → ruleText r = s → r = ⟨trimC 58 (w.getD 0 []), kidxF (w.getD 1 []) 4, z2, z4, wo, wi⟩ := by
    intro wo wi H hH hwo r hr ht
    obtain ⟨e1, e2⟩ := hwo r hr ht
    have hww := hrd r hr ht
    obtain ⟨⟨_, _, _⟩, hb, _⟩ := ruleF_zero.1 hr
    unfold Rl.bound at hb
    rw [hww] at hz2 hz4 ⊢
    simp only [ruleW, List.cons_append, List.nil_append, List.getD_cons_zero, List.getD_cons_succ] at hz2 hz4 ⊢
    have f2 := hz2 _ rfl (by omega)
    have f4 := hz4 _ rfl (by omega)
    have g2 : z2 = r.first := by omega
    have g4 : z4 = r.thn := by omega
    rw [trimC_snoc, kidxF_kn (by omega) (by omega), e1, e2, g2, g4]
  refine i_cond (fun c5 => ?_) (fun c5 => ?_)
  · try simp (disch := first | omega | (simp only [PL]; omega)) only [PS, P1, P2, P3, P4, P5, P6, P7, P8, PA, PB, PC, Nat.reduceAdd, Nat.reduceSub, Nat.reduceMul, Nat.reduceLeDiff, Nat.reduceEqDiff, Nat.succ_ne_self, reduceCtorEq, Int.reduceToNat, Int.cast_ofNat_Int, Int.reduceEq, Int.reduceNe, Int.reduceLT, Int.reduceLE]
    refine i_num p6 H189 fun h15 z6 p7 hz6 => ?_
    have e6 := p7.f6
    try simp (disch := first | omega | (simp only [PL]; omega)) only [PS, P1, P2, P3, P4, P5, P6, P7, P8, PA, PB, PC, Nat.reduceAdd, Nat.reduceSub, Nat.reduceMul, Nat.reduceLeDiff, Nat.reduceEqDiff, Nat.succ_ne_self, reduceCtorEq, Int.reduceToNat, Int.cast_ofNat_Int, Int.reduceEq, Int.reduceNe, Int.reduceLT, Int.reduceLE, e6]
    refine i_word p7 H188 fun h16 p8 => ?_
    try simp (disch := first | omega | (simp only [PL]; omega)) only [PS, P1, P2, P3, P4, P5, P6, P7, P8, PA, PB, PC, Nat.reduceAdd, Nat.reduceSub, Nat.reduceMul, Nat.reduceLeDiff, Nat.reduceEqDiff, Nat.succ_ne_self, reduceCtorEq, Int.reduceToNat, Int.cast_ofNat_Int, Int.reduceEq, Int.reduceNe, Int.reduceLT, Int.reduceLE]
    refine i_num p8 H189 fun h17 z8 p9 hz8 => ?_
    have hfin := fin z6 z8 h17 p9.hg fun r hr ht => by
      have hww := hrd r hr ht
      obtain ⟨⟨_, _, _⟩, hb, _⟩ := ruleF_zero.1 hr
      unfold Rl.bound at hb
      rw [hww] at hz6 hz8 c5
      by_cases hwo : 0 ≤ r.wout
      · simp only [ruleW, if_pos hwo, List.cons_append, List.nil_append, List.getD_cons_zero, List.getD_cons_succ] at hz6 hz8
        have f6 := hz6 _ rfl (by omega)
        have f8 := hz8 _ rfl (by omega)
        omega
      · simp only [ruleW, if_neg hwo, List.cons_append, List.nil_append, List.getD_cons_zero, List.getD_cons_succ] at c5
        exact absurd c5 (by decide)
    try simp (disch := first | omega | (simp only [PL]; omega)) only [PS, P1, P2, P3, P4, P5, P6, P7, P8, PA, PB, PC, Nat.reduceAdd, Nat.reduceSub, Nat.reduceMul, Nat.reduceLeDiff, Nat.reduceEqDiff, Nat.succ_ne_self, reduceCtorEq, Int.reduceToNat, Int.cast_ofNat_Int, Int.reduceEq, Int.reduceNe, Int.reduceLT, Int.reduceLE]
    refine i_call H169 ⟨⟨trimC 58 (w.getD 0 []), kidxF (w.getD 1 []) 4, z2, z4, z6, z8⟩, rfl, by dsimp only; omega, p9.hT.trans p9.hg, fun hb h18 hle18 => ?_, fun hb h18 hle18 => ?_⟩
    · obtain ⟨f, hf⟩ : ∃ f, ruleF ⟨trimC 58 (w.getD 0 []), kidxF (w.getD 1 []) 4, z2, z4, z6, z8⟩ = f + 1 := Nat.exists_eq_succ_of_ne_zero hb
      rw [hf]
      try simp (disch := first | omega | (simp only [PL]; omega)) only [PS, P1, P2, P3, P4, P5, P6, P7, P8, PA, PB, PC, Nat.reduceAdd, Nat.reduceSub, Nat.reduceMul, Nat.reduceLeDiff, Nat.reduceEqDiff, Nat.succ_ne_self, reduceCtorEq, Int.reduceToNat, Int.cast_ofNat_Int, Int.reduceEq, Int.reduceNe, Int.reduceLT, Int.reduceLE, errV_succ]
      refine hK2 (fun r hr ht => ?_) h18 (hgh.trans (p9.hg.trans hle18))
      rw [hfin r hr ht] at hr
      exact hb hr
    · try simp (disch := first | omega | (simp only [PL]; omega)) only [PS, P1, P2, P3, P4, P5, P6, P7, P8, PA, PB, PC, Nat.reduceAdd, Nat.reduceSub, Nat.reduceMul, Nat.reduceLeDiff, Nat.reduceEqDiff, Nat.succ_ne_self, reduceCtorEq, Int.reduceToNat, Int.cast_ofNat_Int, Int.reduceEq, Int.reduceNe, Int.reduceLT, Int.reduceLE]
      refine i_cond (fun c9 => ?_) (fun c9 => ?_)
      · try simp (disch := first | omega | (simp only [PL]; omega)) only [PS, P1, P2, P3, P4, P5, P6, P7, P8, PA, PB, PC, Nat.reduceAdd, Nat.reduceSub, Nat.reduceMul, Nat.reduceLeDiff, Nat.reduceEqDiff, Nat.succ_ne_self, reduceCtorEq, Int.reduceToNat, Int.cast_ofNat_Int, Int.reduceEq, Int.reduceNe, Int.reduceLT, Int.reduceLE]
        refine hK2 (fun r hr ht => ?_) h18 (hgh.trans (p9.hg.trans hle18))
        rw [hfin r hr ht] at ht
        exact c9 ht
      · try simp (disch := first | omega | (simp only [PL]; omega)) only [PS, P1, P2, P3, P4, P5, P6, P7, P8, PA, PB, PC, Nat.reduceAdd, Nat.reduceSub, Nat.reduceMul, Nat.reduceLeDiff, Nat.reduceEqDiff, Nat.succ_ne_self, reduceCtorEq, Int.reduceToNat, Int.cast_ofNat_Int, Int.reduceEq, Int.reduceNe, Int.reduceLT, Int.reduceLE]
        exact hK1 _ hb (Decidable.not_not.1 c9) h18 (hgh.trans (p9.hg.trans hle18))
  · try simp (disch := first | omega | (simp only [PL]; omega)) only [PS, P1, P2, P3, P4, P5, P6, P7, P8, PA, PB, PC, Nat.reduceAdd, Nat.reduceSub, Nat.reduceMul, Nat.reduceLeDiff, Nat.reduceEqDiff, Nat.succ_ne_self, reduceCtorEq, Int.reduceToNat, Int.cast_ofNat_Int, Int.reduceEq, Int.reduceNe, Int.reduceLT, Int.reduceLE]
    refine i_num p6 H189 fun h15 z6 p7 hz6 => ?_
    have hfin := fin (-1) z6 h15 p7.hg fun r hr ht => by
      have hww := hrd r hr ht
      obtain ⟨⟨_, _, _⟩, hb, _⟩ := ruleF_zero.1 hr
      unfold Rl.bound at hb
      rw [hww] at hz6 c5
      by_cases hwo : 0 ≤ r.wout
      · simp only [ruleW, if_pos hwo, List.cons_append, List.nil_append, List.getD_cons_zero, List.getD_cons_succ] at c5
        exact absurd rfl c5
      · simp only [ruleW, if_neg hwo, List.cons_append, List.nil_append, List.getD_cons_zero, List.getD_cons_succ] at hz6
        have f6 := hz6 _ rfl (by omega)
        omega
    try simp (disch := first | omega | (simp only [PL]; omega)) only [PS, P1, P2, P3, P4, P5, P6, P7, P8, PA, PB, PC, Nat.reduceAdd, Nat.reduceSub, Nat.reduceMul, Nat.reduceLeDiff, Nat.reduceEqDiff, Nat.succ_ne_self, reduceCtorEq, Int.reduceToNat, Int.cast_ofNat_Int, Int.reduceEq, Int.reduceNe, Int.reduceLT, Int.reduceLE]
    refine i_call H169 ⟨⟨trimC 58 (w.getD 0 []), kidxF (w.getD 1 []) 4, z2, z4, -1, z6⟩, rfl, by dsimp only; omega, p7.hT.trans p7.hg, fun hb h18 hle18 => ?_, fun hb h18 hle18 => ?_⟩
    · obtain ⟨f, hf⟩ : ∃ f, ruleF ⟨trimC 58 (w.getD 0 []), kidxF (w.getD 1 []) 4, z2, z4, -1, z6⟩ = f + 1 := Nat.exists_eq_succ_of_ne_zero hb
      rw [hf]
      try simp (disch := first | omega | (simp only [PL]; omega)) only [PS, P1, P2, P3, P4, P5, P6, P7, P8, PA, PB, PC, Nat.reduceAdd, Nat.reduceSub, Nat.reduceMul, Nat.reduceLeDiff, Nat.reduceEqDiff, Nat.succ_ne_self, reduceCtorEq, Int.reduceToNat, Int.cast_ofNat_Int, Int.reduceEq, Int.reduceNe, Int.reduceLT, Int.reduceLE, errV_succ]
      refine hK2 (fun r hr ht => ?_) h18 (hgh.trans (p7.hg.trans hle18))
      rw [hfin r hr ht] at hr
      exact hb hr
    · try simp (disch := first | omega | (simp only [PL]; omega)) only [PS, P1, P2, P3, P4, P5, P6, P7, P8, PA, PB, PC, Nat.reduceAdd, Nat.reduceSub, Nat.reduceMul, Nat.reduceLeDiff, Nat.reduceEqDiff, Nat.succ_ne_self, reduceCtorEq, Int.reduceToNat, Int.cast_ofNat_Int, Int.reduceEq, Int.reduceNe, Int.reduceLT, Int.reduceLE]
      refine i_cond (fun c9 => ?_) (fun c9 => ?_)
      · try simp (disch := first | omega | (simp only [PL]; omega)) only [PS, P1, P2, P3, P4, P5, P6, P7, P8, PA, PB, PC, Nat.reduceAdd, Nat.reduceSub, Nat.reduceMul, Nat.reduceLeDiff, Nat.reduceEqDiff, Nat.succ_ne_self, reduceCtorEq, Int.reduceToNat, Int.cast_ofNat_Int, Int.reduceEq, Int.reduceNe, Int.reduceLT, Int.reduceLE]
        refine hK2 (fun r hr ht => ?_) h18 (hgh.trans (p7.hg.trans hle18))
        rw [hfin r hr ht] at ht
        exact c9 ht
      · try simp (disch := first | omega | (simp only [PL]; omega)) only [PS, P1, P2, P3, P4, P5, P6, P7, P8, PA, PB, PC, Nat.reduceAdd, Nat.reduceSub, Nat.reduceMul, Nat.reduceLeDiff, Nat.reduceEqDiff, Nat.succ_ne_self, reduceCtorEq, Int.reduceToNat, Int.cast_ofNat_Int, Int.reduceEq, Int.reduceNe, Int.reduceLT, Int.reduceLE]
        exact hK1 _ hb (Decidable.not_not.1 c9) h18 (hgh.trans (p7.hg.trans hle18))
end Go.Cw
namespace Go.Cw
open Go
theorem figOk_dec {n : Nat} (h : n < 10 ^ 9) : figOk (dec n) := ⟨dec_len 9 h (by omega), digs_dec n⟩
def S173 : Spec := fun args h K => ∃ s, args = [.string (str s)] ∧ s.length ≤ 1000000 ∧
  (∀ r : Rl, ruleF r = 0 → ruleText r = s → ∀ h', Heap.le h h' → K (.tuple #[aggR r, .bool true]) h') ∧ ((∀ r : Rl, ruleF r = 0 → ruleText r ≠ s) → ∀ h', Heap.le h h' → K (.tuple #[aggR ⟨[], 0, 0, 0, 0, 0⟩, .bool false]) h')
theorem F173_ok {N : Num} {Γ : Ctx} [GoodC Γ] (H183 : Sat S183 (Γ 183)) (H187 : Sat S187 (Γ 187)) (H184 : Sat S184 (Γ 184)) (H168 : Sat S168 (Γ 168)) (H171 : Sat S171 (Γ 171)) : Sat S173 (SF N Γ F173) := by
  rintro _ h K ⟨s, rfl, hsl, hK1, hK2⟩
  simp only [aggR] at hK1 hK2
  refine i_fun rfl ?_
  simp only [F173, env0, List.map, List.length, List.replicate, List.cons_append, List.nil_append, Nat.reduceSub, Nat.reduceAdd]
  have hrd : ∀ r : Rl, ruleF r = 0 → ruleText r = s → _ := fun r h1 h2 => rule_read h1 h2
  have h32 : ((32 : UInt8).toNat : Int) = 32 := rfl
  try simp (disch := first | omega | (simp only [PL]; omega)) only [PS, P1, P2, P3, P4, P5, P6, P7, P8, PA, PB, PC, Nat.reduceAdd, Nat.reduceSub, Nat.reduceMul, Nat.reduceLeDiff, Nat.reduceEqDiff, Nat.succ_ne_self, reduceCtorEq, Int.reduceToNat, Int.cast_ofNat_Int, Int.reduceEq, Int.reduceNe, Int.reduceLT, Int.reduceLE]
  refine i_call H183 ⟨s, 32, rfl, hsl, fun v h1 ho1 => ?_⟩
  have hle1 := ho1.1
  have hS := ho1.sl (enc := encT) (fun _ => rfl)
  have hwm := pcs_mem_len (c := 32) (s := s)
  have hwl := pcs_len 32 s
  have hne := List.length_pos_iff.2 (pcs_ne 32 s)
  obtain ⟨w, hw⟩ : ∃ w, w = pcs 32 s := ⟨_, rfl⟩
  rw [← hw] at hS hwm hwl hrd hne
  have O1 := hS.one
  clear ho1
  have hread : ∀ r : Rl, ruleF r = 0 → ruleText r = s → (w.length = if 0 ≤ r.wout then 9 else 7) ∧ w.getD 0 [] = r.name ++ [58] ∧ w.getD 1 [] = kn r.kind ∧ w.getD 2 [] = dec r.first.toNat ∧ w.getD 4 [] = dec r.thn.toNat ∧ w.getD (w.length - 1) [] = dec r.wthn.toNat ∧ (0 ≤ r.wout → w.getD 6 [] = dec r.wout.toNat) ∧ 0 ≤ r.kind ∧ r.kind ≤ 3 ∧ 0 ≤ r.first ∧ r.first ≤ 7 ∧ 0 ≤ r.thn ∧ r.thn ≤ 7 ∧ -1 ≤ r.wout ∧ r.wout ≤ 7 ∧ 1 ≤ r.wthn ∧ r.wthn ≤ 50 := by
    intro r hr ht
    have hww := hrd r hr ht
    obtain ⟨⟨_, _, _⟩, hb, _⟩ := ruleF_zero.1 hr
    unfold Rl.bound at hb
    rw [hww]
    by_cases hwo : 0 ≤ r.wout
    · simp only [ruleW, if_pos hwo]
      exact ⟨rfl, rfl, rfl, rfl, rfl, rfl, fun _ => rfl, by omega⟩
    · simp only [ruleW, if_neg hwo]
      exact ⟨rfl, rfl, rfl, rfl, rfl, rfl, fun h => absurd h hwo, by omega⟩
  have hwk : ∀ k, (w.getD k []).length ≤ 1000000 := fun k => by
    by_cases hk2 : k < w.length
    · exact Nat.le_trans (hwm _ (getD_mem [] hk2)) hsl
    · rw [List.getD_eq_getElem?_getD, List.getElem?_eq_none (by omega)]; simp
  have hdd : ∀ k, w.getD k default = w.getD k [] := fun k => rfl
  have hwk0 := hwk 0
  have R := hS.rules1 (fun t => .string (str t)) (fun _ => rfl) default
  try simp (disch := first | omega | (simp only [PL]; omega)) only [PS, P1, P2, P3, P4, P5, P6, P7, P8, PA, PB, PC, Nat.reduceAdd, Nat.reduceSub, Nat.reduceMul, Nat.reduceLeDiff, Nat.reduceEqDiff, Nat.succ_ne_self, reduceCtorEq, Int.reduceToNat, Int.cast_ofNat_Int, Int.reduceEq, Int.reduceNe, Int.reduceLT, Int.reduceLE, R, hdd]
  refine i_cond (fun c1 => ?_) (fun c1 => ?_)
  · try simp (disch := first | omega | (simp only [PL]; omega)) only [PS, P1, P2, P3, P4, P5, P6, P7, P8, PA, PB, PC, Nat.reduceAdd, Nat.reduceSub, Nat.reduceMul, Nat.reduceLeDiff, Nat.reduceEqDiff, Nat.succ_ne_self, reduceCtorEq, Int.reduceToNat, Int.cast_ofNat_Int, Int.reduceEq, Int.reduceNe, Int.reduceLT, Int.reduceLE]
    refine hK2 (fun r hr ht => ?_) h1 hle1
    obtain ⟨q1, q2, _⟩ := hread r hr ht
    have : (w.getD 0 []).length ≠ 0 := by rw [q2]; simp
    split at q1 <;> omega
  have hlen : w.length = 7 ∨ w.length = 9 := by omega
  have hw0 : (w.getD 0 []).length ≠ 0 := by omega
  have hws : IntKind.i64.wrap (((w.getD 0 []).length : Nat) - 1) = (((w.getD 0 []).length - 1 : Nat) : Int) := by rw [w64 (by omega) (by omega)]; omega
  have htk : ((w.getD 0 []).take ((w.getD 0 []).length - 1)).drop 0 = (w.getD 0 []).dropLast := by rw [List.drop_zero, List.dropLast_eq_take]
  try simp (disch := first | omega | (simp only [PL]; omega)) only [PS, P1, P2, P3, P4, P5, P6, P7, P8, PA, PB, PC, Nat.reduceAdd, Nat.reduceSub, Nat.reduceMul, Nat.reduceLeDiff, Nat.reduceEqDiff, Nat.succ_ne_self, reduceCtorEq, Int.reduceToNat, Int.cast_ofNat_Int, Int.reduceEq, Int.reduceNe, Int.reduceLT, Int.reduceLE, R, hdd, hws, htk]
  refine i_newO fun b4 h2 hle2 hb4 ho4 => ?_
  refine i_le (le_one hle2) ?_
  try simp (disch := first | omega | (simp only [PL]; omega)) only [PS, P1, P2, P3, P4, P5, P6, P7, P8, PA, PB, PC, Nat.reduceAdd, Nat.reduceSub, Nat.reduceMul, Nat.reduceLeDiff, Nat.reduceEqDiff, Nat.succ_ne_self, reduceCtorEq, Int.reduceToNat, Int.cast_ofNat_Int, Int.reduceEq, Int.reduceNe, Int.reduceLT, Int.reduceLE]
  refine i_st (ho4.le (fr_le h1 h2)) 0 6 rfl rfl (by omega) (Nat.le_refl 6) fun o hob _ => ?_
  have ho5 : objAt (h2.set b4 o) ⟨b4, 0, none⟩ [.string (str (w.getD 0 []).dropLast), .int .i64 (-1), .int .i64 0, .int .i64 0, .int .i64 (-1), .int .i64 0] := hob h2 rfl
  have hle3 : Heap.le h1 (h2.set b4 o) := but.le (b := b4) hle2 hb4 fun x hx => Heap.set_ne hx
  generalize h2.set b4 o = h3 at *
  clear ho4 hob
  have hkv := fun (i : Nat) (hi : i < 4) (H : Heap) (ik : IntKind) => kinds_at (k := (i : Int)) (by omega) (by omega) H ik
  unfold kindsV at hkv
  try simp (disch := first | omega | (simp only [PL]; omega)) only [PS, P1, P2, P3, P4, P5, P6, P7, P8, PA, PB, PC, Nat.reduceAdd, Nat.reduceSub, Nat.reduceMul, Nat.reduceLeDiff, Nat.reduceEqDiff, Nat.succ_ne_self, reduceCtorEq, Int.reduceToNat, Int.cast_ofNat_Int, Int.reduceEq, Int.reduceNe, Int.reduceLT, Int.reduceLE]
  refine i_meet_blk (fun env H => Heap.le h1 H ∧ objAt H ⟨b4, 0, none⟩ [.string (str (w.getD 0 []).dropLast), .int .i64 (kidxF (w.getD 1 []) 4), .int .i64 0, .int .i64 0, .int .i64 (-1), .int .i64 0] ∧ env = [some (.string (str s)), some (.agg #[.string (str []), .int .i64 0, .int .i64 0, .int .i64 0, .int .i64 0, .int .i64 0]), none, some (v), some (.pointer (some ⟨b4, 0, none⟩)), none, none, none, none, none, none, none, none, none, none, none, none, none, none, none, none, none, none, none, none, none, none, none, none, none, none, none, none]) ?_ ?_
  rotate_left
  · refine i_loop (fun i : Nat => [some (.string (str s)), some (.agg #[.string (str []), .int .i64 0, .int .i64 0, .int .i64 0, .int .i64 0, .int .i64 0]), none, some (v), some (.pointer (some ⟨b4, 0, none⟩)), some (.int .i64 (i : Nat)), none, none, none, none, none, none, none, none, none, none, none, none, none, none, none, none, none, none, none, none, none, none, none, none, none, none, none]) (fun i H => i ≤ 4 ∧ Heap.le h1 H ∧ objAt H ⟨b4, 0, none⟩ [.string (str (w.getD 0 []).dropLast), .int .i64 (kidxF (w.getD 1 []) i), .int .i64 0, .int .i64 0, .int .i64 (-1), .int .i64 0]) (fun i => 4 - i) 0 (by try simp only [Pe, and_true, true_and, and_self]; simp) ⟨by omega, hle3, ho5⟩ ?_
    clear ho5 hle3 hle2
    rintro i H ⟨hi, hle, ho⟩
    have hwi : IntKind.i64.wrap ((i : Int) + 1) = ((i + 1 : Nat) : Int) := by rw [w64 (by omega) (by omega)]; omega
    have RH := (hS.le hle).rules1 (fun t => .string (str t)) (fun _ => rfl) default
    try simp (disch := first | omega | (simp only [PL]; omega)) only [PS, P1, P2, P3, P4, P5, P6, P7, P8, PA, PB, PC, Nat.reduceAdd, Nat.reduceSub, Nat.reduceMul, Nat.reduceLeDiff, Nat.reduceEqDiff, Nat.succ_ne_self, reduceCtorEq, Int.reduceToNat, Int.cast_ofNat_Int, Int.reduceEq, Int.reduceNe, Int.reduceLT, Int.reduceLE]
    refine i_cond (fun c => ?_) (fun c => ?_)
    rotate_left
    · have : i = 4 := by omega
      subst this
      try simp (disch := first | omega | (simp only [PL]; omega)) only [PS, P1, P2, P3, P4, P5, P6, P7, P8, PA, PB, PC, Nat.reduceAdd, Nat.reduceSub, Nat.reduceMul, Nat.reduceLeDiff, Nat.reduceEqDiff, Nat.succ_ne_self, reduceCtorEq, Int.reduceToNat, Int.cast_ofNat_Int, Int.reduceEq, Int.reduceNe, Int.reduceLT, Int.reduceLE]
      exact k_meet _ (by try simp only [Pe, and_true, true_and, and_self]) ⟨hle, ho, rfl⟩
    have hi2 : i < 4 := by omega
    have hki := hkv i hi2
    try simp (disch := first | omega | (simp only [PL]; omega)) only [PS, P1, P2, P3, P4, P5, P6, P7, P8, PA, PB, PC, Nat.reduceAdd, Nat.reduceSub, Nat.reduceMul, Nat.reduceLeDiff, Nat.reduceEqDiff, Nat.succ_ne_self, reduceCtorEq, Int.reduceToNat, Int.cast_ofNat_Int, Int.reduceEq, Int.reduceNe, Int.reduceLT, Int.reduceLE, RH, hdd]
    refine i_call H187 ⟨rfl, ?_⟩
    refine i_le (le_one (Heap.le.refl _)) ?_
    unfold kindsV
    try simp (disch := first | omega | (simp only [PL]; omega)) only [PS, P1, P2, P3, P4, P5, P6, P7, P8, PA, PB, PC, Nat.reduceAdd, Nat.reduceSub, Nat.reduceMul, Nat.reduceLeDiff, Nat.reduceEqDiff, Nat.succ_ne_self, reduceCtorEq, Int.reduceToNat, Int.cast_ofNat_Int, Int.reduceEq, Int.reduceNe, Int.reduceLT, Int.reduceLE, hki]
    refine i_cond (fun c2 => ?_) (fun c2 => ?_)
    · have e : kidxF (w.getD 1 []) (i + 1) = (i : Nat) := by simp only [kidxF, if_pos c2]
      try simp (disch := first | omega | (simp only [PL]; omega)) only [PS, P1, P2, P3, P4, P5, P6, P7, P8, PA, PB, PC, Nat.reduceAdd, Nat.reduceSub, Nat.reduceMul, Nat.reduceLeDiff, Nat.reduceEqDiff, Nat.succ_ne_self, reduceCtorEq, Int.reduceToNat, Int.cast_ofNat_Int, Int.reduceEq, Int.reduceNe, Int.reduceLT, Int.reduceLE]
      refine i_st ho 1 1 rfl rfl (by omega) (by simp) fun o hob _ => ?_
      have hob2 : objAt (H.set b4 o) ⟨b4, 0, none⟩ [.string (str (w.getD 0 []).dropLast), .int .i64 (kidxF (w.getD 1 []) (i + 1)), .int .i64 0, .int .i64 0, .int .i64 (-1), .int .i64 0] := by rw [e]; exact hob H rfl
      have hle4 : Heap.le h1 (H.set b4 o) := hle.over hb4 o
      generalize H.set b4 o = H2 at *
      try simp (disch := first | omega | (simp only [PL]; omega)) only [PS, P1, P2, P3, P4, P5, P6, P7, P8, PA, PB, PC, Nat.reduceAdd, Nat.reduceSub, Nat.reduceMul, Nat.reduceLeDiff, Nat.reduceEqDiff, Nat.succ_ne_self, reduceCtorEq, Int.reduceToNat, Int.cast_ofNat_Int, Int.reduceEq, Int.reduceNe, Int.reduceLT, Int.reduceLE, hwi]
      exact k_loop (i + 1) (by omega) (by try simp only [Pe, and_true, true_and, and_self]) ⟨by omega, hle4, hob2⟩
    · have e : kidxF (w.getD 1 []) (i + 1) = kidxF (w.getD 1 []) i := by simp only [kidxF, if_neg c2]
      try simp (disch := first | omega | (simp only [PL]; omega)) only [PS, P1, P2, P3, P4, P5, P6, P7, P8, PA, PB, PC, Nat.reduceAdd, Nat.reduceSub, Nat.reduceMul, Nat.reduceLeDiff, Nat.reduceEqDiff, Nat.succ_ne_self, reduceCtorEq, Int.reduceToNat, Int.cast_ofNat_Int, Int.reduceEq, Int.reduceNe, Int.reduceLT, Int.reduceLE, hwi]
      exact k_loop (i + 1) (by omega) (by try simp only [Pe, and_true, true_and, and_self]) ⟨by omega, hle, by rw [e]; exact ho⟩
  clear ho5 hle3 hle2
  rintro env H ⟨hle, ho, rfl⟩
  have RH := (hS.le hle).rules1 (fun t => .string (str t)) (fun _ => rfl) default
  have hwn : IntKind.i64.wrap ((w.length : Nat) - 1) = ((w.length - 1 : Nat) : Int) := by rw [w64 (by omega) (by omega)]; omega
  try simp (disch := first | omega | (simp only [PL]; omega)) only [PS, P1, P2, P3, P4, P5, P6, P7, P8, PA, PB, PC, Nat.reduceAdd, Nat.reduceSub, Nat.reduceMul, Nat.reduceLeDiff, Nat.reduceEqDiff, Nat.succ_ne_self, reduceCtorEq, Int.reduceToNat, Int.cast_ofNat_Int, Int.reduceEq, Int.reduceNe, Int.reduceLT, Int.reduceLE, RH, hdd]
  refine i_call H184 ⟨w.getD 2 [], rfl, by have := hwk 2; omega, ?_⟩
  try simp (disch := first | omega | (simp only [PL]; omega)) only [PS, P1, P2, P3, P4, P5, P6, P7, P8, PA, PB, PC, Nat.reduceAdd, Nat.reduceSub, Nat.reduceMul, Nat.reduceLeDiff, Nat.reduceEqDiff, Nat.succ_ne_self, reduceCtorEq, Int.reduceToNat, Int.cast_ofNat_Int, Int.reduceEq, Int.reduceNe, Int.reduceLT, Int.reduceLE, RH, hdd]
  refine i_call H184 ⟨w.getD 4 [], rfl, by have := hwk 4; omega, ?_⟩
  try simp (disch := first | omega | (simp only [PL]; omega)) only [PS, P1, P2, P3, P4, P5, P6, P7, P8, PA, PB, PC, Nat.reduceAdd, Nat.reduceSub, Nat.reduceMul, Nat.reduceLeDiff, Nat.reduceEqDiff, Nat.succ_ne_self, reduceCtorEq, Int.reduceToNat, Int.cast_ofNat_Int, Int.reduceEq, Int.reduceNe, Int.reduceLT, Int.reduceLE, RH, hdd, hwn]
  refine i_call H184 ⟨w.getD (w.length - 1) [], rfl, by have := hwk (w.length - 1); omega, ?_⟩
  by_cases hfig : (figOk (w.getD 2 []) ∧ w.getD 2 [] ≠ []) ∧ (figOk (w.getD 4 []) ∧ w.getD 4 [] ≠ []) ∧ (figOk (w.getD (w.length - 1) []) ∧ w.getD (w.length - 1) [] ≠ [])
  rotate_left
  · have hno : ∀ r : Rl, ruleF r = 0 → ruleText r ≠ s := by
      intro r hr ht
      obtain ⟨q1, q2, q3, q4, q5, q6, q7, q8⟩ := hread r hr ht
      refine hfig ⟨?_, ?_, ?_⟩
      · rw [q4]; exact ⟨figOk_dec (by omega), dec_ne _⟩
      · rw [q5]; exact ⟨figOk_dec (by omega), dec_ne _⟩
      · rw [q6]; exact ⟨figOk_dec (by omega), dec_ne _⟩
    by_cases f2 : figOk (w.getD 2 []) ∧ w.getD 2 [] ≠ []
    · by_cases f4 : figOk (w.getD 4 []) ∧ w.getD 4 [] ≠ []
      · have f6 : ¬ (figOk (w.getD (w.length - 1) []) ∧ w.getD (w.length - 1) [] ≠ []) := fun h => hfig ⟨f2, f4, h⟩
        rw [decide_eq_true f2, decide_eq_true f4, decide_eq_false f6]
        try simp (disch := first | omega | (simp only [PL]; omega)) only [PS, P1, P2, P3, P4, P5, P6, P7, P8, PA, PB, PC, Nat.reduceAdd, Nat.reduceSub, Nat.reduceMul, Nat.reduceLeDiff, Nat.reduceEqDiff, Nat.succ_ne_self, reduceCtorEq, Int.reduceToNat, Int.cast_ofNat_Int, Int.reduceEq, Int.reduceNe, Int.reduceLT, Int.reduceLE]
        exact hK2 hno H (hle1.trans hle)
      · rw [decide_eq_true f2, decide_eq_false f4]
        try simp (disch := first | omega | (simp only [PL]; omega)) only [PS, P1, P2, P3, P4, P5, P6, P7, P8, PA, PB, PC, Nat.reduceAdd, Nat.reduceSub, Nat.reduceMul, Nat.reduceLeDiff, Nat.reduceEqDiff, Nat.succ_ne_self, reduceCtorEq, Int.reduceToNat, Int.cast_ofNat_Int, Int.reduceEq, Int.reduceNe, Int.reduceLT, Int.reduceLE]
        exact hK2 hno H (hle1.trans hle)
    · rw [decide_eq_false f2]
      try simp (disch := first | omega | (simp only [PL]; omega)) only [PS, P1, P2, P3, P4, P5, P6, P7, P8, PA, PB, PC, Nat.reduceAdd, Nat.reduceSub, Nat.reduceMul, Nat.reduceLeDiff, Nat.reduceEqDiff, Nat.succ_ne_self, reduceCtorEq, Int.reduceToNat, Int.cast_ofNat_Int, Int.reduceEq, Int.reduceNe, Int.reduceLT, Int.reduceLE]
      exact hK2 hno H (hle1.trans hle)
  obtain ⟨f2, f4, f6⟩ := hfig
  have hnm : ∀ x : List UInt8, figOk x → numv x ≤ 1000000000 := by
    intro x hx
    have h1 := numv_lt hx.2
    have h2 : 10 ^ x.length ≤ 10 ^ 9 := Nat.pow_le_pow_right (by omega) hx.1
    omega
  rw [decide_eq_true f2, decide_eq_true f4, decide_eq_true f6, if_pos f2.1, if_pos f4.1, if_pos f6.1]
  try simp (disch := first | omega | (simp only [PL]; omega)) only [PS, P1, P2, P3, P4, P5, P6, P7, P8, PA, PB, PC, Nat.reduceAdd, Nat.reduceSub, Nat.reduceMul, Nat.reduceLeDiff, Nat.reduceEqDiff, Nat.succ_ne_self, reduceCtorEq, Int.reduceToNat, Int.cast_ofNat_Int, Int.reduceEq, Int.reduceNe, Int.reduceLT, Int.reduceLE]
  refine i_st ho 2 1 rfl rfl (by omega) (by simp) fun o2 hob2 _ => ?_
  have ho2 : objAt (H.set b4 o2) ⟨b4, 0, none⟩ [.string (str (w.getD 0 []).dropLast), .int .i64 (kidxF (w.getD 1 []) 4), .int .i64 (numv (w.getD 2 []) : Nat), .int .i64 0, .int .i64 (-1), .int .i64 0] := hob2 H rfl
  have hle2 : Heap.le h1 (H.set b4 o2) := hle.over hb4 o2
  generalize H.set b4 o2 = H2 at *
  try simp (disch := first | omega | (simp only [PL]; omega)) only [PS, P1, P2, P3, P4, P5, P6, P7, P8, PA, PB, PC, Nat.reduceAdd, Nat.reduceSub, Nat.reduceMul, Nat.reduceLeDiff, Nat.reduceEqDiff, Nat.succ_ne_self, reduceCtorEq, Int.reduceToNat, Int.cast_ofNat_Int, Int.reduceEq, Int.reduceNe, Int.reduceLT, Int.reduceLE]
  refine i_st ho2 3 1 rfl rfl (by omega) (by simp) fun o3 hob3 _ => ?_
  have ho3 : objAt (H2.set b4 o3) ⟨b4, 0, none⟩ [.string (str (w.getD 0 []).dropLast), .int .i64 (kidxF (w.getD 1 []) 4), .int .i64 (numv (w.getD 2 []) : Nat), .int .i64 (numv (w.getD 4 []) : Nat), .int .i64 (-1), .int .i64 0] := hob3 H2 rfl
  have hle3 : Heap.le h1 (H2.set b4 o3) := hle2.over hb4 o3
  generalize H2.set b4 o3 = H3 at *
  try simp (disch := first | omega | (simp only [PL]; omega)) only [PS, P1, P2, P3, P4, P5, P6, P7, P8, PA, PB, PC, Nat.reduceAdd, Nat.reduceSub, Nat.reduceMul, Nat.reduceLeDiff, Nat.reduceEqDiff, Nat.succ_ne_self, reduceCtorEq, Int.reduceToNat, Int.cast_ofNat_Int, Int.reduceEq, Int.reduceNe, Int.reduceLT, Int.reduceLE]
  refine i_st ho3 5 1 rfl rfl (by omega) (by simp) fun o4 hob4 _ => ?_
  have ho4 : objAt (H3.set b4 o4) ⟨b4, 0, none⟩ [.string (str (w.getD 0 []).dropLast), .int .i64 (kidxF (w.getD 1 []) 4), .int .i64 (numv (w.getD 2 []) : Nat), .int .i64 (numv (w.getD 4 []) : Nat), .int .i64 (-1), .int .i64 (numv (w.getD (w.length - 1) []) : Nat)] := hob4 H3 rfl
  have hle4 : Heap.le h1 (H3.set b4 o4) := hle3.over hb4 o4
  generalize H3.set b4 o4 = H4 at *
  clear hob2 hob3 hob4 ho ho2 ho3 hle2 hle3 RH hle
  have RH := (hS.le hle4).rules1 (fun t => .string (str t)) (fun _ => rfl) default
  have hdl : (w.getD 0 []).dropLast.length ≤ 1000000 := by rw [List.length_dropLast]; omega
  have fin : ∀ wo : Int, (∀ r : Rl, ruleF r = 0 → ruleText r = s → wo = r.wout) → ∀ r : Rl, ruleF r = 0 → ruleText r = s → r = ⟨(w.getD 0 []).dropLast, kidxF (w.getD 1 []) 4, (numv (w.getD 2 []) : Nat), (numv (w.getD 4 []) : Nat), wo, (numv (w.getD (w.length - 1) []) : Nat)⟩ := by
    intro wo hwo r hr ht
    obtain ⟨q1, q2, q3, q4, q5, q6, q7, q8⟩ := hread r hr ht
    have e1 := hwo r hr ht
    rw [q2, q3, q4, q5, q6, e1, numv_dec, numv_dec, numv_dec, kidxF_kn (by omega) (by omega)]
    have g2 : ((r.first.toNat : Nat) : Int) = r.first := by omega
    have g4 : ((r.thn.toNat : Nat) : Int) = r.thn := by omega
    have g6 : ((r.wthn.toNat : Nat) : Int) = r.wthn := by omega
    rw [g2, g4, g6, List.dropLast_concat]
  rcases hlen with hl7 | hl9
  · have q9 : (((w.length : Nat) : Int) = 9) = False := by rw [eq_iff_iff]; simp; omega
    have hfin := fin (-1) fun r hr ht => by
      obtain ⟨q1, q2, q3, q4, q5, q6, q7, q8⟩ := hread r hr ht
      split at q1 <;> omega
    have hrow := ho4.rules.2.2
    simp only [List.length_cons, List.length_nil, Nat.reduceAdd] at hrow
    try simp (disch := first | omega | (simp only [PL]; omega)) only [PS, P1, P2, P3, P4, P5, P6, P7, P8, PA, PB, PC, Nat.reduceAdd, Nat.reduceSub, Nat.reduceMul, Nat.reduceLeDiff, Nat.reduceEqDiff, Nat.succ_ne_self, reduceCtorEq, Int.reduceToNat, Int.cast_ofNat_Int, Int.reduceEq, Int.reduceNe, Int.reduceLT, Int.reduceLE, RH, q9, hrow]
    refine i_call H168 ⟨⟨(w.getD 0 []).dropLast, kidxF (w.getD 1 []) 4, (numv (w.getD 2 []) : Nat), (numv (w.getD 4 []) : Nat), -1, (numv (w.getD (w.length - 1) []) : Nat)⟩, rfl, by dsimp only; omega, ?_⟩
    by_cases hb : ruleF ⟨(w.getD 0 []).dropLast, kidxF (w.getD 1 []) 4, (numv (w.getD 2 []) : Nat), (numv (w.getD 4 []) : Nat), -1, (numv (w.getD (w.length - 1) []) : Nat)⟩ = 0
    rotate_left
    · obtain ⟨f, hf⟩ := Nat.exists_eq_succ_of_ne_zero hb
      rw [hf]
      have hpos : ((0 : Int) < ((f + 1 : Nat) : Int)) = True := by rw [eq_iff_iff]; exact ⟨fun _ => trivial, fun _ => by omega⟩
      try simp (disch := first | omega | (simp only [PL]; omega)) only [PS, P1, P2, P3, P4, P5, P6, P7, P8, PA, PB, PC, Nat.reduceAdd, Nat.reduceSub, Nat.reduceMul, Nat.reduceLeDiff, Nat.reduceEqDiff, Nat.succ_ne_self, reduceCtorEq, Int.reduceToNat, Int.cast_ofNat_Int, Int.reduceEq, Int.reduceNe, Int.reduceLT, Int.reduceLE, hpos]
      refine hK2 (fun r hr ht => ?_) H4 (hle1.trans hle4)
      rw [hfin r hr ht] at hr
      exact hb hr
    rw [hb]
    try simp (disch := first | omega | (simp only [PL]; omega)) only [PS, P1, P2, P3, P4, P5, P6, P7, P8, PA, PB, PC, Nat.reduceAdd, Nat.reduceSub, Nat.reduceMul, Nat.reduceLeDiff, Nat.reduceEqDiff, Nat.succ_ne_self, reduceCtorEq, Int.reduceToNat, Int.cast_ofNat_Int, Int.reduceEq, Int.reduceNe, Int.reduceLT, Int.reduceLE, hrow]
    refine i_call H171 ⟨_, rfl, hb, fun h9 hle9 => ?_⟩
    have hrow9 := row_hmono hle9 hrow
    try simp (disch := first | omega | (simp only [PL]; omega)) only [PS, P1, P2, P3, P4, P5, P6, P7, P8, PA, PB, PC, Nat.reduceAdd, Nat.reduceSub, Nat.reduceMul, Nat.reduceLeDiff, Nat.reduceEqDiff, Nat.succ_ne_self, reduceCtorEq, Int.reduceToNat, Int.cast_ofNat_Int, Int.reduceEq, Int.reduceNe, Int.reduceLT, Int.reduceLE]
    refine i_cond (fun c9 => ?_) (fun c9 => ?_)
    · try simp (disch := first | omega | (simp only [PL]; omega)) only [PS, P1, P2, P3, P4, P5, P6, P7, P8, PA, PB, PC, Nat.reduceAdd, Nat.reduceSub, Nat.reduceMul, Nat.reduceLeDiff, Nat.reduceEqDiff, Nat.succ_ne_self, reduceCtorEq, Int.reduceToNat, Int.cast_ofNat_Int, Int.reduceEq, Int.reduceNe, Int.reduceLT, Int.reduceLE]
      refine hK2 (fun r hr ht => ?_) h9 (hle1.trans (hle4.trans hle9))
      rw [hfin r hr ht] at ht
      exact c9 ht
    · try simp (disch := first | omega | (simp only [PL]; omega)) only [PS, P1, P2, P3, P4, P5, P6, P7, P8, PA, PB, PC, Nat.reduceAdd, Nat.reduceSub, Nat.reduceMul, Nat.reduceLeDiff, Nat.reduceEqDiff, Nat.succ_ne_self, reduceCtorEq, Int.reduceToNat, Int.cast_ofNat_Int, Int.reduceEq, Int.reduceNe, Int.reduceLT, Int.reduceLE, hrow9]
      exact hK1 _ hb (Decidable.not_not.1 c9) h9 (hle1.trans (hle4.trans hle9))
  · have q9 : (((w.length : Nat) : Int) = 9) = True := by rw [eq_iff_iff]; simp; omega
    try simp (disch := first | omega | (simp only [PL]; omega)) only [PS, P1, P2, P3, P4, P5, P6, P7, P8, PA, PB, PC, Nat.reduceAdd, Nat.reduceSub, Nat.reduceMul, Nat.reduceLeDiff, Nat.reduceEqDiff, Nat.succ_ne_self, reduceCtorEq, Int.reduceToNat, Int.cast_ofNat_Int, Int.reduceEq, Int.reduceNe, Int.reduceLT, Int.reduceLE, RH, q9, hdd]
    refine i_call H184 ⟨w.getD 6 [], rfl, by have := hwk 6; omega, ?_⟩
    by_cases f9 : figOk (w.getD 6 []) ∧ w.getD 6 [] ≠ []
    rotate_left
    · rw [decide_eq_false f9]
      try simp (disch := first | omega | (simp only [PL]; omega)) only [PS, P1, P2, P3, P4, P5, P6, P7, P8, PA, PB, PC, Nat.reduceAdd, Nat.reduceSub, Nat.reduceMul, Nat.reduceLeDiff, Nat.reduceEqDiff, Nat.succ_ne_self, reduceCtorEq, Int.reduceToNat, Int.cast_ofNat_Int, Int.reduceEq, Int.reduceNe, Int.reduceLT, Int.reduceLE]
      refine hK2 (fun r hr ht => ?_) H4 (hle1.trans hle4)
      obtain ⟨q1, q2, q3, q4, q5, q6, q7, q8⟩ := hread r hr ht
      have hwo : 0 ≤ r.wout := by split at q1 <;> omega
      refine f9 ?_
      rw [q7 hwo]; exact ⟨figOk_dec (by omega), dec_ne _⟩
    rw [decide_eq_true f9, if_pos f9.1]
    have hn6 := hnm _ f9.1
    try simp (disch := first | omega | (simp only [PL]; omega)) only [PS, P1, P2, P3, P4, P5, P6, P7, P8, PA, PB, PC, Nat.reduceAdd, Nat.reduceSub, Nat.reduceMul, Nat.reduceLeDiff, Nat.reduceEqDiff, Nat.succ_ne_self, reduceCtorEq, Int.reduceToNat, Int.cast_ofNat_Int, Int.reduceEq, Int.reduceNe, Int.reduceLT, Int.reduceLE]
    refine i_st ho4 4 1 rfl rfl (by omega) (by simp) fun o5 hob5 _ => ?_
    have ho5 : objAt (H4.set b4 o5) ⟨b4, 0, none⟩ [.string (str (w.getD 0 []).dropLast), .int .i64 (kidxF (w.getD 1 []) 4), .int .i64 (numv (w.getD 2 []) : Nat), .int .i64 (numv (w.getD 4 []) : Nat), .int .i64 (numv (w.getD 6 []) : Nat), .int .i64 (numv (w.getD (w.length - 1) []) : Nat)] := hob5 H4 rfl
    have hle5 : Heap.le h1 (H4.set b4 o5) := hle4.over hb4 o5
    generalize H4.set b4 o5 = H5 at *
    clear hob5
    have hfin := fin (numv (w.getD 6 []) : Nat) fun r hr ht => by
      obtain ⟨q1, q2, q3, q4, q5, q6, q7, q8⟩ := hread r hr ht
      have hwo : 0 ≤ r.wout := by split at q1 <;> omega
      rw [q7 hwo, numv_dec]; omega
    have hrow := ho5.rules.2.2
    simp only [List.length_cons, List.length_nil, Nat.reduceAdd] at hrow
    try simp (disch := first | omega | (simp only [PL]; omega)) only [PS, P1, P2, P3, P4, P5, P6, P7, P8, PA, PB, PC, Nat.reduceAdd, Nat.reduceSub, Nat.reduceMul, Nat.reduceLeDiff, Nat.reduceEqDiff, Nat.succ_ne_self, reduceCtorEq, Int.reduceToNat, Int.cast_ofNat_Int, Int.reduceEq, Int.reduceNe, Int.reduceLT, Int.reduceLE, hrow]
    refine i_call H168 ⟨⟨(w.getD 0 []).dropLast, kidxF (w.getD 1 []) 4, (numv (w.getD 2 []) : Nat), (numv (w.getD 4 []) : Nat), (numv (w.getD 6 []) : Nat), (numv (w.getD (w.length - 1) []) : Nat)⟩, rfl, by dsimp only; omega, ?_⟩
    by_cases hb : ruleF ⟨(w.getD 0 []).dropLast, kidxF (w.getD 1 []) 4, (numv (w.getD 2 []) : Nat), (numv (w.getD 4 []) : Nat), (numv (w.getD 6 []) : Nat), (numv (w.getD (w.length - 1) []) : Nat)⟩ = 0
    rotate_left
    · obtain ⟨f, hf⟩ := Nat.exists_eq_succ_of_ne_zero hb
      rw [hf]
      have hpos : ((0 : Int) < ((f + 1 : Nat) : Int)) = True := by rw [eq_iff_iff]; exact ⟨fun _ => trivial, fun _ => by omega⟩
      try simp (disch := first | omega | (simp only [PL]; omega)) only [PS, P1, P2, P3, P4, P5, P6, P7, P8, PA, PB, PC, Nat.reduceAdd, Nat.reduceSub, Nat.reduceMul, Nat.reduceLeDiff, Nat.reduceEqDiff, Nat.succ_ne_self, reduceCtorEq, Int.reduceToNat, Int.cast_ofNat_Int, Int.reduceEq, Int.reduceNe, Int.reduceLT, Int.reduceLE, hpos]
      refine hK2 (fun r hr ht => ?_) H5 (hle1.trans hle5)
      rw [hfin r hr ht] at hr
      exact hb hr
    rw [hb]
    try simp (disch := first | omega | (simp only [PL]; omega)) only [PS, P1, P2, P3, P4, P5, P6, P7, P8, PA, PB, PC, Nat.reduceAdd, Nat.reduceSub, Nat.reduceMul, Nat.reduceLeDiff, Nat.reduceEqDiff, Nat.succ_ne_self, reduceCtorEq, Int.reduceToNat, Int.cast_ofNat_Int, Int.reduceEq, Int.reduceNe, Int.reduceLT, Int.reduceLE, hrow]
    refine i_call H171 ⟨_, rfl, hb, fun h9 hle9 => ?_⟩
    have hrow9 := row_hmono hle9 hrow
    try simp (disch := first | omega | (simp only [PL]; omega)) only [PS, P1, P2, P3, P4, P5, P6, P7, P8, PA, PB, PC, Nat.reduceAdd, Nat.reduceSub, Nat.reduceMul, Nat.reduceLeDiff, Nat.reduceEqDiff, Nat.succ_ne_self, reduceCtorEq, Int.reduceToNat, Int.cast_ofNat_Int, Int.reduceEq, Int.reduceNe, Int.reduceLT, Int.reduceLE]
    refine i_cond (fun c9 => ?_) (fun c9 => ?_)
    · try simp (disch := first | omega | (simp only [PL]; omega)) only [PS, P1, P2, P3, P4, P5, P6, P7, P8, PA, PB, PC, Nat.reduceAdd, Nat.reduceSub, Nat.reduceMul, Nat.reduceLeDiff, Nat.reduceEqDiff, Nat.succ_ne_self, reduceCtorEq, Int.reduceToNat, Int.cast_ofNat_Int, Int.reduceEq, Int.reduceNe, Int.reduceLT, Int.reduceLE]
      refine hK2 (fun r hr ht => ?_) h9 (hle1.trans (hle5.trans hle9))
      rw [hfin r hr ht] at ht
      exact c9 ht
    · try simp (disch := first | omega | (simp only [PL]; omega)) only [PS, P1, P2, P3, P4, P5, P6, P7, P8, PA, PB, PC, Nat.reduceAdd, Nat.reduceSub, Nat.reduceMul, Nat.reduceLeDiff, Nat.reduceEqDiff, Nat.succ_ne_self, reduceCtorEq, Int.reduceToNat, Int.cast_ofNat_Int, Int.reduceEq, Int.reduceNe, Int.reduceLT, Int.reduceLE, hrow9]
      exact hK1 _ hb (Decidable.not_not.1 c9) h9 (hle1.trans (hle5.trans hle9))
end Go.Cw
namespace Go.Cw
open Go
def scanR (cm bad : Nat → Bool) (lo : Nat) : Nat → Bool
  | 0 => false
  | n + 1 => if n < lo then false else if cm n then true else if bad n then false else scanR cm bad lo n
theorem scanR_iff (cm bad : Nat → Bool) (lo : Nat) : ∀ n, scanR cm bad lo n = true ↔ ∃ e0, lo ≤ e0 ∧ e0 < n ∧ cm e0 = true ∧ ∀ x, e0 < x → x < n → bad x = false := by
  intro n
  induction n with
  | zero => simp [scanR]
  | succ n ih =>
    unfold scanR
    by_cases h1 : n < lo
    · rw [if_pos h1]
      constructor
      · intro h; cases h
      · rintro ⟨e0, h2, h3, _⟩; omega
    rw [if_neg h1]
    by_cases h2 : cm n = true
    · rw [if_pos h2]
      exact ⟨fun _ => ⟨n, by omega, by omega, h2, fun x h3 h4 => by omega⟩, fun _ => rfl⟩
    rw [if_neg h2]
    by_cases h3 : bad n = true
    · rw [if_pos h3]
      constructor
      · intro h; cases h
      · rintro ⟨e0, q1, q2, q3, q4⟩
        by_cases e : e0 = n
        · subst e; exact absurd q3 h2
        · have := q4 n (by omega) (by omega)
          rw [this] at h3; cases h3
    rw [if_neg h3, ih]
    constructor
    · rintro ⟨e0, q1, q2, q3, q4⟩
      refine ⟨e0, q1, by omega, q3, fun x h5 h6 => ?_⟩
      by_cases e : x = n
      · subst e; simpa using h3
      · exact q4 x h5 (by omega)
    · rintro ⟨e0, q1, q2, q3, q4⟩
      have : e0 ≠ n := by rintro rfl; exact h2 q3
      exact ⟨e0, q1, by omega, q3, fun x h5 h6 => q4 x h5 (by omega)⟩
def badR (window need : Nat) (E : List (List Si)) (r : Rl) (s : List UInt8) (x : Nat) : Bool := decide (0 ≤ r.wout ∧ atE window need (E.take (x + 1)) s = r.wout)
def holdR (window need : Nat) (E : List (List Si)) (r : Rl) (s : List UInt8) (e : Int) : Bool :=
  decide (ruleF r = 0) && decide (kindOf s ≠ 0) && decide (r.kind = 0 ∨ kindOf s = r.kind) && cms window need E s r.thn e && scanR (fun x => cms window need E s r.first (x : Nat)) (badR window need E r s) (e - r.wthn).toNat e.toNat
theorem kindOf_zero (b : List UInt8) : kindOf b = 0 ↔ tagOf b = none := by
  unfold kindOf
  cases h : tagOf b with
  | none => simp
  | some t =>
    have hk : 1 ≤ t.kind := by
      unfold tagOf at h
      split at h
      · cases h
      · split at h
        · cases h
        · split at h <;> cases h
          rename_i hb
          obtain ⟨_, _, k1, _⟩ := Tg.good hb
          exact k1
    simp; omega
theorem cms_some {window need : Nat} {E : List (List Si)} {s : List UInt8} {p e : Int} (h : cms window need E s p e = true) : 0 ≤ e ∧ e < E.length ∧ toldE E s := by
  unfold cms at h
  split at h
  · cases h
  · rename_i hc
    have h0 : (whr window need E s e).2 = 0 := by
      refine Classical.byContradiction fun hn => hc (.inl hn)
    unfold whr at h0
    split at h0
    · cases h0
    · split at h0
      · rename_i h1 h2; exact ⟨by omega, by omega, h2⟩
      · cases h0
def S174 (N : Num) : Spec := fun args h K => ∃ gt bt window need E r s e, args = [.pointer (some ⟨bt, 0, none⟩), aggR r, .string (str s), .int .i64 e] ∧ TrO gt bt window need E ∧ Heap.le gt h ∧ E.length ≤ 1000 ∧ r.name.length ≤ 10000000 ∧ (-1000000 ≤ e ∧ e ≤ 1000000) ∧
  ∀ h', Heap.le h h' → K (.bool (holdR window need E r s e)) h'
theorem F174_ok {N : Num} {Γ : Ctx} [GoodC Γ] (H170 : Sat (S170 N) (Γ 170)) (H50 : Sat S50 (Γ 50)) (H81 : Sat (S81 N) (Γ 81)) (H30 : Sat (S30 N) (Γ 30)) : Sat (S174 N) (SF N Γ F174) := by
  rintro _ h K ⟨gt, bt, window, need, E, r, s, e, rfl, hT, hgt, hEl, hnl, he, hK⟩
  refine i_fun rfl ?_
  simp only [F174, env0, List.map, List.length, List.replicate, List.cons_append, List.nil_append, Nat.reduceSub, Nat.reduceAdd, aggR]
  unfold holdR at hK
  try simp (disch := first | omega | (simp only [PL]; omega)) only [PS, P1, P2, P3, P4, P5, P6, P7, P8, PA, PB, PC, Nat.reduceAdd, Nat.reduceSub, Nat.reduceMul, Nat.reduceLeDiff, Nat.reduceEqDiff, Nat.succ_ne_self, reduceCtorEq, Int.reduceToNat, Int.cast_ofNat_Int, Int.reduceEq, Int.reduceNe, Int.reduceLT, Int.reduceLE]
  refine i_call H170 ⟨r, rfl, hnl, ?_⟩
  by_cases hf : ruleF r = 0
  rotate_left
  · obtain ⟨f, hf'⟩ := Nat.exists_eq_succ_of_ne_zero hf
    rw [decide_eq_false hf] at hK
    simp only [Bool.false_and] at hK
    rw [hf']
    try simp (disch := first | omega | (simp only [PL]; omega)) only [PS, P1, P2, P3, P4, P5, P6, P7, P8, PA, PB, PC, Nat.reduceAdd, Nat.reduceSub, Nat.reduceMul, Nat.reduceLeDiff, Nat.reduceEqDiff, Nat.succ_ne_self, reduceCtorEq, Int.reduceToNat, Int.cast_ofNat_Int, Int.reduceEq, Int.reduceNe, Int.reduceLT, Int.reduceLE, errV_succ]
    exact hK h (Heap.le.refl h)
  rw [decide_eq_true hf] at hK
  rw [hf]
  have hb := (ruleF_zero.1 hf).2.1
  unfold Rl.bound at hb
  try simp (disch := first | omega | (simp only [PL]; omega)) only [PS, P1, P2, P3, P4, P5, P6, P7, P8, PA, PB, PC, Nat.reduceAdd, Nat.reduceSub, Nat.reduceMul, Nat.reduceLeDiff, Nat.reduceEqDiff, Nat.succ_ne_self, reduceCtorEq, Int.reduceToNat, Int.cast_ofNat_Int, Int.reduceEq, Int.reduceNe, Int.reduceLT, Int.reduceLE, errV_zero]
  refine i_call H50 ⟨gt, bt, window, need, E, s, r.thn, e, rfl, hT, hgt, by omega, ?_⟩
  cases hc : cms window need E s r.thn e with
  | false =>
    rw [hc] at hK
    simp only [Bool.and_false, Bool.false_and] at hK
    try simp (disch := first | omega | (simp only [PL]; omega)) only [PS, P1, P2, P3, P4, P5, P6, P7, P8, PA, PB, PC, Nat.reduceAdd, Nat.reduceSub, Nat.reduceMul, Nat.reduceLeDiff, Nat.reduceEqDiff, Nat.succ_ne_self, reduceCtorEq, Int.reduceToNat, Int.cast_ofNat_Int, Int.reduceEq, Int.reduceNe, Int.reduceLT, Int.reduceLE]
    exact hK h (Heap.le.refl h)
  | true =>
  obtain ⟨he0, hel, htd⟩ := cms_some hc
  rw [hc] at hK
  try simp (disch := first | omega | (simp only [PL]; omega)) only [PS, P1, P2, P3, P4, P5, P6, P7, P8, PA, PB, PC, Nat.reduceAdd, Nat.reduceSub, Nat.reduceMul, Nat.reduceLeDiff, Nat.reduceEqDiff, Nat.succ_ne_self, reduceCtorEq, Int.reduceToNat, Int.cast_ofNat_Int, Int.reduceEq, Int.reduceNe, Int.reduceLT, Int.reduceLE]
  refine i_call H81 ⟨s, rfl, fun h1 hle1 => ?_⟩
  unfold tgV
  have hkz := kindOf_zero s
  have hks := kindOf_some s
  cases htg : tagOf s with
  | none =>
    have hk0 : ¬ (kindOf s ≠ 0) := by rw [hkz.2 htg]; simp
    rw [decide_eq_false hk0] at hK
    simp only [Bool.and_false, Bool.false_and, Bool.true_and] at hK
    simp only [aggT, Option.getD, Option.isSome, Bool.false_eq_true, if_false]
    try simp (disch := first | omega | (simp only [PL]; omega)) only [PS, P1, P2, P3, P4, P5, P6, P7, P8, PA, PB, PC, Nat.reduceAdd, Nat.reduceSub, Nat.reduceMul, Nat.reduceLeDiff, Nat.reduceEqDiff, Nat.succ_ne_self, reduceCtorEq, Int.reduceToNat, Int.cast_ofNat_Int, Int.reduceEq, Int.reduceNe, Int.reduceLT, Int.reduceLE, errV_succ]
    exact hK h1 hle1
  | some t =>
  have hk0 : kindOf s ≠ 0 := fun h => by rw [hkz.1 h] at htg; cases htg
  rw [htg] at hks
  simp only [Option.getD] at hks
  rw [decide_eq_true hk0] at hK
  simp only [aggT, Option.getD, Option.isSome, if_true, Bool.true_and, Bool.and_true] at hK ⊢
  have hwe : IntKind.i64.wrap (e - 1) = e - 1 := w64 (by omega) (by omega)
  have hww : IntKind.i64.wrap (e - r.wthn) = e - r.wthn := w64 (by omega) (by omega)
  try simp (disch := first | omega | (simp only [PL]; omega)) only [PS, P1, P2, P3, P4, P5, P6, P7, P8, PA, PB, PC, Nat.reduceAdd, Nat.reduceSub, Nat.reduceMul, Nat.reduceLeDiff, Nat.reduceEqDiff, Nat.succ_ne_self, reduceCtorEq, Int.reduceToNat, Int.cast_ofNat_Int, Int.reduceEq, Int.reduceNe, Int.reduceLT, Int.reduceLE, errV_zero]
  refine i_cond (fun c1 => ?_) (fun c1 => ?_)
  · have hn : ¬ (r.kind = 0 ∨ kindOf s = r.kind) := by rw [hks]; omega
    rw [decide_eq_false hn] at hK
    simp only [Bool.false_and] at hK
    try simp (disch := first | omega | (simp only [PL]; omega)) only [PS, P1, P2, P3, P4, P5, P6, P7, P8, PA, PB, PC, Nat.reduceAdd, Nat.reduceSub, Nat.reduceMul, Nat.reduceLeDiff, Nat.reduceEqDiff, Nat.succ_ne_self, reduceCtorEq, Int.reduceToNat, Int.cast_ofNat_Int, Int.reduceEq, Int.reduceNe, Int.reduceLT, Int.reduceLE]
    exact hK h1 hle1
  have hn : r.kind = 0 ∨ kindOf s = r.kind := by rw [hks]; omega
  rw [decide_eq_true hn] at hK
  simp only [Bool.true_and] at hK
  obtain ⟨en, rfl⟩ : ∃ n : Nat, e = n := ⟨e.toNat, by omega⟩
  have hTl := hgt.trans hle1
  obtain ⟨lo, hlo⟩ : ∃ lo, lo = ((en : Int) - r.wthn).toNat := ⟨_, rfl⟩
  have hmx : max (0 : Int) ((en : Int) - r.wthn) = (lo : Nat) := by omega
  rw [← hlo, Int.toNat_natCast] at hK
  try simp (disch := first | omega | (simp only [PL]; omega)) only [PS, P1, P2, P3, P4, P5, P6, P7, P8, PA, PB, PC, Nat.reduceAdd, Nat.reduceSub, Nat.reduceMul, Nat.reduceLeDiff, Nat.reduceEqDiff, Nat.succ_ne_self, reduceCtorEq, Int.reduceToNat, Int.cast_ofNat_Int, Int.reduceEq, Int.reduceNe, Int.reduceLT, Int.reduceLE, hwe]
  refine i_loop (fun n : Nat => [some (.pointer (some ⟨bt, 0, none⟩)), none, some (.string (str s)), some (.int .i64 (en : Nat)), some (.agg #[.string (str r.name), .int .i64 r.kind, .int .i64 r.first, .int .i64 r.thn, .int .i64 r.wout, .int .i64 r.wthn]), none, none, none, some (.int .i64 ((n : Nat) - 1)), none, none, none, none, none, none, none, none, none, none, none, none, none, none])
    (fun n H => H = h1 ∧ n ≤ en ∧ scanR (fun x => cms window need E s r.first (x : Nat)) (badR window need E r s) lo en = scanR (fun x => cms window need E s r.first (x : Nat)) (badR window need E r s) lo n) (fun n => n) en (by try simp only [Pe, and_true, true_and, and_self]) ⟨rfl, by omega, rfl⟩ ?_
  rintro n H ⟨rfl, hnn, hsc⟩
  try simp (disch := first | omega | (simp only [PL]; omega)) only [PS, P1, P2, P3, P4, P5, P6, P7, P8, PA, PB, PC, Nat.reduceAdd, Nat.reduceSub, Nat.reduceMul, Nat.reduceLeDiff, Nat.reduceEqDiff, Nat.succ_ne_self, reduceCtorEq, Int.reduceToNat, Int.cast_ofNat_Int, Int.reduceEq, Int.reduceNe, Int.reduceLT, Int.reduceLE, hww, hmx]
  refine i_cond (fun c2 => ?_) (fun c2 => ?_)
  rotate_left
  · have : scanR (fun x => cms window need E s r.first (x : Nat)) (badR window need E r s) lo n = false := by
      cases n with
      | zero => rfl
      | succ n => unfold scanR; rw [if_pos (by omega)]
    rw [hsc, this] at hK
    try simp (disch := first | omega | (simp only [PL]; omega)) only [PS, P1, P2, P3, P4, P5, P6, P7, P8, PA, PB, PC, Nat.reduceAdd, Nat.reduceSub, Nat.reduceMul, Nat.reduceLeDiff, Nat.reduceEqDiff, Nat.succ_ne_self, reduceCtorEq, Int.reduceToNat, Int.cast_ofNat_Int, Int.reduceEq, Int.reduceNe, Int.reduceLT, Int.reduceLE]
    exact hK H hle1
  obtain ⟨m, rfl⟩ : ∃ m, n = m + 1 := ⟨n - 1, by omega⟩
  have hm1 : ((m + 1 : Nat) : Int) - 1 = (m : Nat) := by omega
  have hm2 : IntKind.i64.wrap ((m : Int) - 1) = (m : Nat) - 1 := w64 (by omega) (by omega)
  rw [hm1]
  have hst : scanR (fun x => cms window need E s r.first (x : Nat)) (badR window need E r s) lo (m + 1) = if cms window need E s r.first (m : Nat) then true else if badR window need E r s m then false else scanR (fun x => cms window need E s r.first (x : Nat)) (badR window need E r s) lo m := by
    conv => lhs; unfold scanR
    rw [if_neg (by omega)]
  try simp (disch := first | omega | (simp only [PL]; omega)) only [PS, P1, P2, P3, P4, P5, P6, P7, P8, PA, PB, PC, Nat.reduceAdd, Nat.reduceSub, Nat.reduceMul, Nat.reduceLeDiff, Nat.reduceEqDiff, Nat.succ_ne_self, reduceCtorEq, Int.reduceToNat, Int.cast_ofNat_Int, Int.reduceEq, Int.reduceNe, Int.reduceLT, Int.reduceLE]
  refine i_call H50 ⟨gt, bt, window, need, E, s, r.first, (m : Nat), rfl, hT, hTl, by omega, ?_⟩
  cases hcm : cms window need E s r.first (m : Nat) with
  | true =>
    rw [hsc, hst, if_pos hcm] at hK
    try simp (disch := first | omega | (simp only [PL]; omega)) only [PS, P1, P2, P3, P4, P5, P6, P7, P8, PA, PB, PC, Nat.reduceAdd, Nat.reduceSub, Nat.reduceMul, Nat.reduceLeDiff, Nat.reduceEqDiff, Nat.succ_ne_self, reduceCtorEq, Int.reduceToNat, Int.cast_ofNat_Int, Int.reduceEq, Int.reduceNe, Int.reduceLT, Int.reduceLE]
    exact hK H hle1
  | false =>
  rw [hst, if_neg (by rw [hcm]; simp)] at hsc
  try simp (disch := first | omega | (simp only [PL]; omega)) only [PS, P1, P2, P3, P4, P5, P6, P7, P8, PA, PB, PC, Nat.reduceAdd, Nat.reduceSub, Nat.reduceMul, Nat.reduceLeDiff, Nat.reduceEqDiff, Nat.succ_ne_self, reduceCtorEq, Int.reduceToNat, Int.cast_ofNat_Int, Int.reduceEq, Int.reduceNe, Int.reduceLT, Int.reduceLE]
  refine i_call H30 (S30_whr hT hTl ?_)
  have hwr : whr window need E s (m : Nat) = (atE window need (E.take (m + 1)) s, 0) := by
    unfold whr
    rw [if_neg (by omega), if_pos htd, Int.toNat_natCast]
  rw [hwr]
  try simp (disch := first | omega | (simp only [PL]; omega)) only [PS, P1, P2, P3, P4, P5, P6, P7, P8, PA, PB, PC, Nat.reduceAdd, Nat.reduceSub, Nat.reduceMul, Nat.reduceLeDiff, Nat.reduceEqDiff, Nat.succ_ne_self, reduceCtorEq, Int.reduceToNat, Int.cast_ofNat_Int, Int.reduceEq, Int.reduceNe, Int.reduceLT, Int.reduceLE]
  refine i_cond (fun c3 => ?_) (fun c3 => ?_)
  · have hbd : badR window need E r s m = true := decide_eq_true c3
    rw [if_pos hbd] at hsc
    rw [hsc] at hK
    try simp (disch := first | omega | (simp only [PL]; omega)) only [PS, P1, P2, P3, P4, P5, P6, P7, P8, PA, PB, PC, Nat.reduceAdd, Nat.reduceSub, Nat.reduceMul, Nat.reduceLeDiff, Nat.reduceEqDiff, Nat.succ_ne_self, reduceCtorEq, Int.reduceToNat, Int.cast_ofNat_Int, Int.reduceEq, Int.reduceNe, Int.reduceLT, Int.reduceLE]
    exact hK H hle1
  · have hbd : ¬ badR window need E r s m = true := by unfold badR; rw [decide_eq_false c3]; simp
    rw [if_neg hbd] at hsc
    try simp (disch := first | omega | (simp only [PL]; omega)) only [PS, P1, P2, P3, P4, P5, P6, P7, P8, PA, PB, PC, Nat.reduceAdd, Nat.reduceSub, Nat.reduceMul, Nat.reduceLeDiff, Nat.reduceEqDiff, Nat.succ_ne_self, reduceCtorEq, Int.reduceToNat, Int.cast_ofNat_Int, Int.reduceEq, Int.reduceNe, Int.reduceLT, Int.reduceLE, hm2]
    exact k_loop m (by omega) (by try simp only [Pe, and_true, true_and, and_self]) ⟨rfl, by omega, hsc⟩
end Go.Cw
namespace Go.Cw
open Go
def S175 : Spec := fun args h K => ∃ gm bm window need E r s e, args = [.pointer (some ⟨bm, 0, none⟩), aggR r, .string (str s), .int .i64 e] ∧ RT gm bm window need E ∧ Heap.le gm h ∧ MOkE window need E ∧ s.length ≤ 1000000 ∧ E.length ≤ 1000 ∧ r.name.length ≤ 10000000 ∧ (-1000000 ≤ e ∧ e ≤ 1000000) ∧
  ∀ gm' h', Step gm h gm' h' → RT gm' bm window need E → K (.bool (holdR window need E r s e)) h'
theorem F175_ok {N : Num} {Γ : Ctx} [GoodC Γ] (H83 : Sat S83 (Γ 83)) (H168 : Sat S168 (Γ 168)) (H53 : Sat S53 (Γ 53)) (H70 : Sat S70 (Γ 70)) : Sat S175 (SF N Γ F175) := by
  rintro _ h K ⟨gm, bm, window, need, E, r, s, e, rfl, hM, hgm, hok, hsl, hEl, hnl, he, hK⟩
  refine i_fun rfl ?_
  simp only [F175, env0, List.map, List.length, List.replicate, List.cons_append, List.nil_append, Nat.reduceSub, Nat.reduceAdd, aggR]
  unfold holdR at hK
  try simp (disch := first | omega | (simp only [PL]; omega)) only [PS, P1, P2, P3, P4, P5, P6, P7, P8, PA, PB, PC, Nat.reduceAdd, Nat.reduceSub, Nat.reduceMul, Nat.reduceLeDiff, Nat.reduceEqDiff, Nat.succ_ne_self, reduceCtorEq, Int.reduceToNat, Int.cast_ofNat_Int, Int.reduceEq, Int.reduceNe, Int.reduceLT, Int.reduceLE]
  refine i_call H83 ⟨s, rfl, fun h1 hle1 => ?_⟩
  have hst1 := Step.more hgm hle1
  try simp (disch := first | omega | (simp only [PL]; omega)) only [PS, P1, P2, P3, P4, P5, P6, P7, P8, PA, PB, PC, Nat.reduceAdd, Nat.reduceSub, Nat.reduceMul, Nat.reduceLeDiff, Nat.reduceEqDiff, Nat.succ_ne_self, reduceCtorEq, Int.reduceToNat, Int.cast_ofNat_Int, Int.reduceEq, Int.reduceNe, Int.reduceLT, Int.reduceLE]
  refine i_call H168 ⟨r, rfl, hnl, ?_⟩
  by_cases hf : ruleF r = 0
  rotate_left
  · obtain ⟨f, hf'⟩ := Nat.exists_eq_succ_of_ne_zero hf
    rw [decide_eq_false hf] at hK
    simp only [Bool.false_and] at hK
    rw [hf']
    have hpos : ((0 : Int) < ((f + 1 : Nat) : Int)) = True := by rw [eq_iff_iff]; exact ⟨fun _ => trivial, fun _ => by omega⟩
    try simp (disch := first | omega | (simp only [PL]; omega)) only [PS, P1, P2, P3, P4, P5, P6, P7, P8, PA, PB, PC, Nat.reduceAdd, Nat.reduceSub, Nat.reduceMul, Nat.reduceLeDiff, Nat.reduceEqDiff, Nat.succ_ne_self, reduceCtorEq, Int.reduceToNat, Int.cast_ofNat_Int, Int.reduceEq, Int.reduceNe, Int.reduceLT, Int.reduceLE, hpos]
    exact hK _ h1 hst1 hM
  rw [decide_eq_true hf] at hK
  rw [hf]
  have hb := (ruleF_zero.1 hf).2.1
  unfold Rl.bound at hb
  have hpos0 : ((0 : Int) < ((0 : Nat) : Int)) = False := by rw [eq_iff_iff]; exact ⟨fun h => by omega, fun h => h.elim⟩
  try simp (disch := first | omega | (simp only [PL]; omega)) only [PS, P1, P2, P3, P4, P5, P6, P7, P8, PA, PB, PC, Nat.reduceAdd, Nat.reduceSub, Nat.reduceMul, Nat.reduceLeDiff, Nat.reduceEqDiff, Nat.succ_ne_self, reduceCtorEq, Int.reduceToNat, Int.cast_ofNat_Int, Int.reduceEq, Int.reduceNe, Int.reduceLT, Int.reduceLE, hpos0]
  refine i_cond (fun c1 => ?_) (fun c1 => ?_)
  · try simp (disch := first | omega | (simp only [PL]; omega)) only [PS, P1, P2, P3, P4, P5, P6, P7, P8, PA, PB, PC, Nat.reduceAdd, Nat.reduceSub, Nat.reduceMul, Nat.reduceLeDiff, Nat.reduceEqDiff, Nat.succ_ne_self, reduceCtorEq, Int.reduceToNat, Int.cast_ofNat_Int, Int.reduceEq, Int.reduceNe, Int.reduceLT, Int.reduceLE]
    have : (decide (kindOf s ≠ 0) && decide (r.kind = 0 ∨ kindOf s = r.kind)) = false := by
      rw [← Bool.decide_and, decide_eq_false_iff_not]; omega
    simp only [Bool.true_and, this, Bool.false_and] at hK
    exact hK _ h1 hst1 hM
  have : (decide (kindOf s ≠ 0) && decide (r.kind = 0 ∨ kindOf s = r.kind)) = true := by
    rw [← Bool.decide_and, decide_eq_true_iff]; omega
  simp only [Bool.true_and, this] at hK
  clear this
  try simp (disch := first | omega | (simp only [PL]; omega)) only [PS, P1, P2, P3, P4, P5, P6, P7, P8, PA, PB, PC, Nat.reduceAdd, Nat.reduceSub, Nat.reduceMul, Nat.reduceLeDiff, Nat.reduceEqDiff, Nat.succ_ne_self, reduceCtorEq, Int.reduceToNat, Int.cast_ofNat_Int, Int.reduceEq, Int.reduceNe, Int.reduceLT, Int.reduceLE]
  refine i_call H53 ⟨gm, bm, window, need, E, s, r.thn, e, rfl, hM, hst1.le, hok, hsl, fun gm2 h2 hS2 hM2 => ?_⟩
  have hst2 := hst1.trans hS2
  cases hc : cms window need E s r.thn e with
  | false =>
    rw [hc] at hK
    simp only [Bool.false_and] at hK
    try simp (disch := first | omega | (simp only [PL]; omega)) only [PS, P1, P2, P3, P4, P5, P6, P7, P8, PA, PB, PC, Nat.reduceAdd, Nat.reduceSub, Nat.reduceMul, Nat.reduceLeDiff, Nat.reduceEqDiff, Nat.succ_ne_self, reduceCtorEq, Int.reduceToNat, Int.cast_ofNat_Int, Int.reduceEq, Int.reduceNe, Int.reduceLT, Int.reduceLE]
    exact hK _ h2 hst2 hM2
  | true =>
  obtain ⟨he0, hel, htd⟩ := cms_some hc
  rw [hc] at hK
  simp only [Bool.true_and] at hK
  have hww : IntKind.i64.wrap (e - r.wthn) = e - r.wthn := w64 (by omega) (by omega)
  obtain ⟨en, rfl⟩ : ∃ n : Nat, e = n := ⟨e.toNat, by omega⟩
  obtain ⟨lo, hlo⟩ : ∃ lo, lo = ((en : Int) - r.wthn).toNat := ⟨_, rfl⟩
  have hmx : max (0 : Int) ((en : Int) - r.wthn) = (lo : Nat) := by omega
  rw [← hlo, Int.toNat_natCast] at hK
  have hiff := scanR_iff (fun x => cms window need E s r.first (x : Nat)) (badR window need E r s) lo en
  try simp (disch := first | omega | (simp only [PL]; omega)) only [PS, P1, P2, P3, P4, P5, P6, P7, P8, PA, PB, PC, Nat.reduceAdd, Nat.reduceSub, Nat.reduceMul, Nat.reduceLeDiff, Nat.reduceEqDiff, Nat.succ_ne_self, reduceCtorEq, Int.reduceToNat, Int.cast_ofNat_Int, Int.reduceEq, Int.reduceNe, Int.reduceLT, Int.reduceLE, hww, hmx]
  refine i_loop (fun n : Nat => [some (.pointer (some ⟨bm, 0, none⟩)), none, some (.string (str s)), some (.int .i64 (en : Nat)), some (.agg #[.string (str r.name), .int .i64 r.kind, .int .i64 r.first, .int .i64 r.thn, .int .i64 r.wout, .int .i64 r.wthn]), none, none, none, some (.int .i64 (n : Nat)), none, none, none, none, none, none, none, none, none, none, none, none, none, none, none])
    (fun n H => lo ≤ n ∧ n ≤ en ∧ (∀ e0, lo ≤ e0 → e0 < n → ¬ ((fun x => cms window need E s r.first (x : Nat)) e0 = true ∧ ∀ x, e0 < x → x < en → (badR window need E r s) x = false)) ∧ ∃ gm', Step gm h gm' H ∧ RT gm' bm window need E) (fun n => en - n) lo (by try simp only [Pe, and_true, true_and, and_self]) ⟨Nat.le_refl _, by omega, fun e0 h1 h2 => by omega, gm2, hst2, hM2⟩ ?_
  clear hst2 hM2 hS2 hst1
  rintro n H ⟨hln, hnn, hno, gm3, hst3, hM3⟩
  have hwn : IntKind.i64.wrap ((n : Int) + 1) = ((n + 1 : Nat) : Int) := by rw [w64 (by omega) (by omega)]; omega
  try simp (disch := first | omega | (simp only [PL]; omega)) only [PS, P1, P2, P3, P4, P5, P6, P7, P8, PA, PB, PC, Nat.reduceAdd, Nat.reduceSub, Nat.reduceMul, Nat.reduceLeDiff, Nat.reduceEqDiff, Nat.succ_ne_self, reduceCtorEq, Int.reduceToNat, Int.cast_ofNat_Int, Int.reduceEq, Int.reduceNe, Int.reduceLT, Int.reduceLE]
  refine i_cond (fun c2 => ?_) (fun c2 => ?_)
  rotate_left
  · have hs : scanR (fun x => cms window need E s r.first (x : Nat)) (badR window need E r s) lo en = false := by
      cases hh : scanR (fun x => cms window need E s r.first (x : Nat)) (badR window need E r s) lo en with
      | false => rfl
      | true =>
        obtain ⟨e0, q1, q2, q3, q4⟩ := hiff.1 hh
        exact absurd ⟨q3, q4⟩ (hno e0 q1 (by omega))
    rw [hs] at hK
    try simp (disch := first | omega | (simp only [PL]; omega)) only [PS, P1, P2, P3, P4, P5, P6, P7, P8, PA, PB, PC, Nat.reduceAdd, Nat.reduceSub, Nat.reduceMul, Nat.reduceLeDiff, Nat.reduceEqDiff, Nat.succ_ne_self, reduceCtorEq, Int.reduceToNat, Int.cast_ofNat_Int, Int.reduceEq, Int.reduceNe, Int.reduceLT, Int.reduceLE]
    exact hK _ H hst3 hM3
  try simp (disch := first | omega | (simp only [PL]; omega)) only [PS, P1, P2, P3, P4, P5, P6, P7, P8, PA, PB, PC, Nat.reduceAdd, Nat.reduceSub, Nat.reduceMul, Nat.reduceLeDiff, Nat.reduceEqDiff, Nat.succ_ne_self, reduceCtorEq, Int.reduceToNat, Int.cast_ofNat_Int, Int.reduceEq, Int.reduceNe, Int.reduceLT, Int.reduceLE]
  refine i_call H53 ⟨gm3, bm, window, need, E, s, r.first, (n : Nat), rfl, hM3, hst3.le, hok, hsl, fun gm4 h4 hS4 hM4 => ?_⟩
  have hst4 := hst3.trans hS4
  try simp (disch := first | omega | (simp only [PL]; omega)) only [PS, P1, P2, P3, P4, P5, P6, P7, P8, PA, PB, PC, Nat.reduceAdd, Nat.reduceSub, Nat.reduceMul, Nat.reduceLeDiff, Nat.reduceEqDiff, Nat.succ_ne_self, reduceCtorEq, Int.reduceToNat, Int.cast_ofNat_Int, Int.reduceEq, Int.reduceNe, Int.reduceLT, Int.reduceLE, hwn]
  refine i_meet_blk (fun env H => (∃ gm', Step gm h gm' H ∧ RT gm' bm window need E) ∧ ∃ cm : Bool, (cm = true ↔ (fun x => cms window need E s r.first (x : Nat)) n = true ∧ ∀ x, n < x → x < en → (badR window need E r s) x = false) ∧ env = [some (.pointer (some ⟨bm, 0, none⟩)), none, some (.string (str s)), some (.int .i64 (en : Nat)), some (.agg #[.string (str r.name), .int .i64 r.kind, .int .i64 r.first, .int .i64 r.thn, .int .i64 r.wout, .int .i64 r.wthn]), none, none, none, some (.int .i64 (n : Nat)), some (.bool cm), none, none, none, none, none, none, none, none, none, none, none, none, none, none]) ?_ ?_
  rotate_left
  · refine i_loop (fun x : Nat × Bool => [some (.pointer (some ⟨bm, 0, none⟩)), none, some (.string (str s)), some (.int .i64 (en : Nat)), some (.agg #[.string (str r.name), .int .i64 r.kind, .int .i64 r.first, .int .i64 r.thn, .int .i64 r.wout, .int .i64 r.wthn]), none, none, none, some (.int .i64 (n : Nat)), some (.bool x.2), some (.int .i64 (x.1 : Nat)), none, none, none, none, none, none, none, none, none, none, none, none, none])
      (fun x H => n < x.1 ∧ x.1 ≤ en + 1 ∧ (x.2 = true ↔ (fun x => cms window need E s r.first (x : Nat)) n = true ∧ ∀ y, n < y → y < x.1 → y < en → (badR window need E r s) y = false) ∧ ∃ gm', Step gm h gm' H ∧ RT gm' bm window need E) (fun x => en + 1 - x.1) (n + 1, cms window need E s r.first (n : Nat)) (by dsimp only; try simp only [Pe, and_true, true_and, and_self]) ⟨by dsimp only; omega, by dsimp only; omega, ⟨fun h => ⟨h, fun y h1 h2 => by dsimp only at h2; omega⟩, fun h => h.1⟩, gm4, hst4, hM4⟩ ?_
    clear hst4 hM4 hS4 hst3 hM3
    rintro ⟨x, cm⟩ H2 ⟨hx1, hx2, hcm, gm5, hst5, hM5⟩
    dsimp only at hx1 hx2 hcm ⊢
    have hwx : IntKind.i64.wrap ((x : Int) + 1) = ((x + 1 : Nat) : Int) := by rw [w64 (by omega) (by omega)]; omega
    by_cases hxe : x < en
    rotate_left
    · have q1 : ((x : Int) < (en : Nat)) = False := by rw [eq_iff_iff]; exact ⟨fun h => by omega, fun h => h.elim⟩
      try simp (disch := first | omega | (simp only [PL]; omega)) only [PS, P1, P2, P3, P4, P5, P6, P7, P8, PA, PB, PC, Nat.reduceAdd, Nat.reduceSub, Nat.reduceMul, Nat.reduceLeDiff, Nat.reduceEqDiff, Nat.succ_ne_self, reduceCtorEq, Int.reduceToNat, Int.cast_ofNat_Int, Int.reduceEq, Int.reduceNe, Int.reduceLT, Int.reduceLE, q1]
      exact k_meet _ (by try simp only [Pe, and_true, true_and, and_self]) ⟨⟨gm5, hst5, hM5⟩, cm, hcm.trans ⟨fun ⟨h1, h2⟩ => ⟨h1, fun y h3 h4 => h2 y h3 (by omega) h4⟩, fun ⟨h1, h2⟩ => ⟨h1, fun y h3 _ h4 => h2 y h3 h4⟩⟩, rfl⟩
    have q1 : ((x : Int) < (en : Nat)) = True := by rw [eq_iff_iff]; exact ⟨fun h => trivial, fun h => by omega⟩
    cases cm with
    | false =>
      try simp (disch := first | omega | (simp only [PL]; omega)) only [PS, P1, P2, P3, P4, P5, P6, P7, P8, PA, PB, PC, Nat.reduceAdd, Nat.reduceSub, Nat.reduceMul, Nat.reduceLeDiff, Nat.reduceEqDiff, Nat.succ_ne_self, reduceCtorEq, Int.reduceToNat, Int.cast_ofNat_Int, Int.reduceEq, Int.reduceNe, Int.reduceLT, Int.reduceLE, q1]
      refine k_meet _ (by try simp only [Pe, and_true, true_and, and_self]) ⟨⟨gm5, hst5, hM5⟩, false, ⟨fun h => (by cases h), fun ⟨h1, h2⟩ => hcm.2 ⟨h1, fun y h3 h4 h5 => h2 y h3 h5⟩⟩, rfl⟩
    | true =>
    have hcm' := hcm.1 rfl
    by_cases hwo : 0 ≤ r.wout
    rotate_left
    · have q2 : (0 ≤ r.wout) = False := by rw [eq_iff_iff]; exact ⟨fun h => hwo h, fun h => h.elim⟩
      try simp (disch := first | omega | (simp only [PL]; omega)) only [PS, P1, P2, P3, P4, P5, P6, P7, P8, PA, PB, PC, Nat.reduceAdd, Nat.reduceSub, Nat.reduceMul, Nat.reduceLeDiff, Nat.reduceEqDiff, Nat.succ_ne_self, reduceCtorEq, Int.reduceToNat, Int.cast_ofNat_Int, Int.reduceEq, Int.reduceNe, Int.reduceLT, Int.reduceLE, q1, q2]
      refine i_le (le_one (Heap.le.refl _)) ?_
      try simp (disch := first | omega | (simp only [PL]; omega)) only [PS, P1, P2, P3, P4, P5, P6, P7, P8, PA, PB, PC, Nat.reduceAdd, Nat.reduceSub, Nat.reduceMul, Nat.reduceLeDiff, Nat.reduceEqDiff, Nat.succ_ne_self, reduceCtorEq, Int.reduceToNat, Int.cast_ofNat_Int, Int.reduceEq, Int.reduceNe, Int.reduceLT, Int.reduceLE, hwx]
      refine k_loop (x + 1, true) (by dsimp only; omega) (by dsimp only; try simp only [Pe, and_true, true_and, and_self]) ⟨by dsimp only; omega, by dsimp only; omega, ⟨fun _ => ⟨hcm'.1, fun y h3 h4 h5 => ?_⟩, fun _ => rfl⟩, gm5, hst5, hM5⟩
      exact decide_eq_false fun h => hwo h.1
    have q2 : (0 ≤ r.wout) = True := by rw [eq_iff_iff]; exact ⟨fun h => trivial, fun h => hwo⟩
    try simp (disch := first | omega | (simp only [PL]; omega)) only [PS, P1, P2, P3, P4, P5, P6, P7, P8, PA, PB, PC, Nat.reduceAdd, Nat.reduceSub, Nat.reduceMul, Nat.reduceLeDiff, Nat.reduceEqDiff, Nat.succ_ne_self, reduceCtorEq, Int.reduceToNat, Int.cast_ofNat_Int, Int.reduceEq, Int.reduceNe, Int.reduceLT, Int.reduceLE, q1, q2]
    refine i_call H70 ⟨gm5, bm, window, need, E, s, x, rfl, hM5, hst5.le, hok, hsl, by omega, fun gm6 h6 hS6 hM6 => ?_⟩
    have hst6 := hst5.trans hS6
    refine i_lex (fun _ => none) (fun x o hx => by cases hx) ?_ (le_one fun x o hx => by cases hx) ?_
    · intro l' hl'
      simp only [List.mem_singleton] at hl'
      subst hl'
      exact ⟨true, by try simp (disch := first | omega | (simp only [PL]; omega)) only [PS, P1, P2, P3, P4, P5, P6, P7, P8, PA, PB, PC, Nat.reduceAdd, Nat.reduceSub, Nat.reduceMul, Nat.reduceLeDiff, Nat.reduceEqDiff, Nat.succ_ne_self, reduceCtorEq, Int.reduceToNat, Int.cast_ofNat_Int, Int.reduceEq, Int.reduceNe, Int.reduceLT, Int.reduceLE, q2], fun _ => ⟨.v (.int .i64 r.wout), by try simp (disch := first | omega | (simp only [PL]; omega)) only [PS, P1, P2, P3, P4, P5, P6, P7, P8, PA, PB, PC, Nat.reduceAdd, Nat.reduceSub, Nat.reduceMul, Nat.reduceLeDiff, Nat.reduceEqDiff, Nat.succ_ne_self, reduceCtorEq, Int.reduceToNat, Int.cast_ofNat_Int, Int.reduceEq, Int.reduceNe, Int.reduceLT, Int.reduceLE]⟩⟩
    try simp (disch := first | omega | (simp only [PL]; omega)) only [PS, P1, P2, P3, P4, P5, P6, P7, P8, PA, PB, PC, Nat.reduceAdd, Nat.reduceSub, Nat.reduceMul, Nat.reduceLeDiff, Nat.reduceEqDiff, Nat.succ_ne_self, reduceCtorEq, Int.reduceToNat, Int.cast_ofNat_Int, Int.reduceEq, Int.reduceNe, Int.reduceLT, Int.reduceLE]
    refine i_cond (fun c3 => ?_) (fun c3 => ?_)
    · have hbd : (badR window need E r s) x = true := decide_eq_true ⟨hwo, c3⟩
      try simp (disch := first | omega | (simp only [PL]; omega)) only [PS, P1, P2, P3, P4, P5, P6, P7, P8, PA, PB, PC, Nat.reduceAdd, Nat.reduceSub, Nat.reduceMul, Nat.reduceLeDiff, Nat.reduceEqDiff, Nat.succ_ne_self, reduceCtorEq, Int.reduceToNat, Int.cast_ofNat_Int, Int.reduceEq, Int.reduceNe, Int.reduceLT, Int.reduceLE, hwx]
      refine k_loop (x + 1, false) (by dsimp only; omega) (by dsimp only; try simp only [Pe, and_true, true_and, and_self]) ⟨by dsimp only; omega, by dsimp only; omega, ⟨fun h => (by cases h), fun ⟨h1, h2⟩ => ?_⟩, gm6, hst6, hM6⟩
      have := h2 x (by omega) (by dsimp only; omega) hxe
      rw [hbd] at this; cases this
    · have hbd : (badR window need E r s) x = false := decide_eq_false fun h => c3 h.2
      try simp (disch := first | omega | (simp only [PL]; omega)) only [PS, P1, P2, P3, P4, P5, P6, P7, P8, PA, PB, PC, Nat.reduceAdd, Nat.reduceSub, Nat.reduceMul, Nat.reduceLeDiff, Nat.reduceEqDiff, Nat.succ_ne_self, reduceCtorEq, Int.reduceToNat, Int.cast_ofNat_Int, Int.reduceEq, Int.reduceNe, Int.reduceLT, Int.reduceLE, hwx]
      refine k_loop (x + 1, true) (by dsimp only; omega) (by dsimp only; try simp only [Pe, and_true, true_and, and_self]) ⟨by dsimp only; omega, by dsimp only; omega, ⟨fun _ => ⟨hcm'.1, fun y h3 h4 h5 => ?_⟩, fun _ => rfl⟩, gm6, hst6, hM6⟩
      by_cases ey : y = x
      · rw [ey]; exact hbd
      · exact hcm'.2 y h3 (by dsimp only at h4; omega) h5
  clear hst4 hM4 hS4 hst3 hM3
  rintro env H2 ⟨⟨gm5, hst5, hM5⟩, cm, hcm, rfl⟩
  try simp (disch := first | omega | (simp only [PL]; omega)) only [PS, P1, P2, P3, P4, P5, P6, P7, P8, PA, PB, PC, Nat.reduceAdd, Nat.reduceSub, Nat.reduceMul, Nat.reduceLeDiff, Nat.reduceEqDiff, Nat.succ_ne_self, reduceCtorEq, Int.reduceToNat, Int.cast_ofNat_Int, Int.reduceEq, Int.reduceNe, Int.reduceLT, Int.reduceLE]
  cases cm with
  | true =>
    have hs : scanR (fun x => cms window need E s r.first (x : Nat)) (badR window need E r s) lo en = true := hiff.2 ⟨n, hln, by omega, (hcm.1 rfl).1, (hcm.1 rfl).2⟩
    rw [hs] at hK
    try simp (disch := first | omega | (simp only [PL]; omega)) only [PS, P1, P2, P3, P4, P5, P6, P7, P8, PA, PB, PC, Nat.reduceAdd, Nat.reduceSub, Nat.reduceMul, Nat.reduceLeDiff, Nat.reduceEqDiff, Nat.succ_ne_self, reduceCtorEq, Int.reduceToNat, Int.cast_ofNat_Int, Int.reduceEq, Int.reduceNe, Int.reduceLT, Int.reduceLE]
    exact hK _ H2 hst5 hM5
  | false =>
    try simp (disch := first | omega | (simp only [PL]; omega)) only [PS, P1, P2, P3, P4, P5, P6, P7, P8, PA, PB, PC, Nat.reduceAdd, Nat.reduceSub, Nat.reduceMul, Nat.reduceLeDiff, Nat.reduceEqDiff, Nat.succ_ne_self, reduceCtorEq, Int.reduceToNat, Int.cast_ofNat_Int, Int.reduceEq, Int.reduceNe, Int.reduceLT, Int.reduceLE, hwn]
    refine k_loop (n + 1) (by omega) (by try simp only [Pe, and_true, true_and, and_self]) ⟨by omega, by omega, fun e0 h1 h2 h3 => ?_, gm5, hst5, hM5⟩
    by_cases ee : e0 = n
    · subst ee
      have := hcm.2 h3
      cases this
    · exact hno e0 h1 (by omega) h3
end Go.Cw
