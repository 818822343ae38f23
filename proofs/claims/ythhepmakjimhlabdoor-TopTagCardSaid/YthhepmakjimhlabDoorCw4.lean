/- Part 4 of the proof of TopTag: a small language for the program's functions, its soundness, and what the functions do. No conditions beyond the theorems' own. -/
import Derived.Test.YthhepmakjimhlabDoorCw3
set_option linter.unusedSimpArgs false
set_option linter.unusedVariables false
namespace Go.Cw
open Go

def tgV (b : List UInt8) : Value := aggT ((tagOf b).getD Tg.zero)
def S110 : Spec := fun args h K => ∃ b, args = [.string (str b)] ∧ ∀ h', Heap.le h h' → K (.tuple #[tgV b, .bool (tagOf b).isSome]) h'
theorem but.obj {b : Nat} {h h' : Heap} (hb : but b h h') {a : Addr} {cs : List Value} (ha : a.block ≠ b) (ho : objAt h a cs) : objAt h' a cs := by
  obtain ⟨h1, c, t, h2, h3⟩ := ho
  exact ⟨h1, c, t, by rw [hb _ ha]; exact h2, h3⟩
theorem objAt.nn {g : Heap} {a : Addr} {cs : List Value} (h : objAt g a cs) : g a.block ≠ none := by
  obtain ⟨_, c, t, h1, _⟩ := h; rw [h1]; simp
theorem F110_ok {N : Num} {Γ : Ctx} [GoodC Γ] (H127 : Sat S127 (Γ 127)) (H79 : Sat S79 (Γ 79)) (H128 : Sat S128 (Γ 128)) : Sat S110 (SF N Γ F110) := by
  rintro _ h K ⟨b, rfl, hK⟩
  refine i_fun rfl ?_
  simp only [F110, env0, List.map, List.length, List.replicate, List.cons_append, List.nil_append, Nat.reduceSub, Nat.reduceAdd]
  try simp (disch := first | omega | (simp only [PL]; omega)) only [PS, P1, P2, P3, P4, P5, P6, P7, P8, PA, PB, PC, Nat.reduceAdd, Nat.reduceSub, Nat.reduceMul, Nat.reduceLeDiff, Nat.reduceEqDiff, Nat.succ_ne_self, reduceCtorEq, Int.reduceToNat, Int.cast_ofNat_Int, Int.reduceEq, Int.reduceNe, Int.reduceLT, Int.reduceLE]
  refine i_newO fun b1 h1 hle1 hb1 ho1' => ?_
  have ho1 : objAt (fr h h1) ⟨b1, 0, none⟩ [.string (str b)] := ho1'
  have B1 : h1.cell ⟨b1, 0, none⟩ = some (.string (str b)) := (ho1.le (fr_le _ _)).rules.2.1 (by simp)
  unfold tgV tagOf at hK
  try simp (disch := first | omega | (simp only [PL]; omega)) only [PS, P1, P2, P3, P4, P5, P6, P7, P8, PA, PB, PC, Nat.reduceAdd, Nat.reduceSub, Nat.reduceMul, Nat.reduceLeDiff, Nat.reduceEqDiff, Nat.succ_ne_self, reduceCtorEq, Int.reduceToNat, Int.cast_ofNat_Int, Int.reduceEq, Int.reduceNe, Int.reduceLT, Int.reduceLE, B1]
  by_cases hlen : b.length = 8
  rotate_left
  · have hl : ((b.length : Int) ≠ 8) = True := by rw [eq_iff_iff]; simp; omega
    rw [if_pos hlen] at hK
    simp only [Option.getD, Option.isSome, Tg.zero, aggT] at hK
    try simp (disch := first | omega | (simp only [PL]; omega)) only [PS, P1, P2, P3, P4, P5, P6, P7, P8, PA, PB, PC, Nat.reduceAdd, Nat.reduceSub, Nat.reduceMul, Nat.reduceLeDiff, Nat.reduceEqDiff, Nat.succ_ne_self, reduceCtorEq, Int.reduceToNat, Int.cast_ofNat_Int, Int.reduceEq, Int.reduceNe, Int.reduceLT, Int.reduceLE, hl]
    exact hK h1 hle1
  have hl : ((b.length : Int) ≠ 8) = False := by rw [eq_iff_iff]; simp; omega
  rw [if_neg (by omega)] at hK
  try simp (disch := first | omega | (simp only [PL]; omega)) only [PS, P1, P2, P3, P4, P5, P6, P7, P8, PA, PB, PC, Nat.reduceAdd, Nat.reduceSub, Nat.reduceMul, Nat.reduceLeDiff, Nat.reduceEqDiff, Nat.succ_ne_self, reduceCtorEq, Int.reduceToNat, Int.cast_ofNat_Int, Int.reduceEq, Int.reduceNe, Int.reduceLT, Int.reduceLE, hl]
  refine i_newO fun b4 h2 hle2 hb4 ho4 => ?_
  try simp (disch := first | omega | (simp only [PL]; omega)) only [PS, P1, P2, P3, P4, P5, P6, P7, P8, PA, PB, PC, Nat.reduceAdd, Nat.reduceSub, Nat.reduceMul, Nat.reduceLeDiff, Nat.reduceEqDiff, Nat.succ_ne_self, reduceCtorEq, Int.reduceToNat, Int.cast_ofNat_Int, Int.reduceEq, Int.reduceNe, Int.reduceLT, Int.reduceLE]
  refine i_st (ho4.le (fr_le _ _)) 0 1 rfl rfl (by omega) (Nat.le_refl 1) fun o hob _ => ?_
  have hob4 : objAt (h2.set b4 o) ⟨b4, 0, none⟩ [.int .i64 (0 : Nat)] := hob h2 rfl
  have hne : b1 ≠ b4 := by
    rintro rfl
    exact objAt.nn ((ho1.le (fr_le h h1)).le (Heap.le.refl h1)) hb4
  have hb4h : h b4 = none := le_none hle1 b4 hb4
  have hle3 : Heap.le h (h2.set b4 o) := but.le (b := b4) (hle1.trans hle2) hb4h fun x hx => Heap.set_ne hx
  have hob1 : objAt (h2.set b4 o) ⟨b1, 0, none⟩ [.string (str b)] := but.obj (b := b4) (fun x hx => Heap.set_ne hx) hne ((ho1.le (fr_le _ _)).le hle2)
  generalize h2.set b4 o = h3 at *
  have hnum : ∀ at_ k, at_ + k ≤ 64 → rdBits b at_ k = num b / 2 ^ (64 - at_ - k) % 2 ^ k := fun at_ k hk => rdBits_num hlen at_ k hk
  have hnlt := num_lt b
  rw [hlen] at hnlt
  try simp (disch := first | omega | (simp only [PL]; omega)) only [PS, P1, P2, P3, P4, P5, P6, P7, P8, PA, PB, PC, Nat.reduceAdd, Nat.reduceSub, Nat.reduceMul, Nat.reduceLeDiff, Nat.reduceEqDiff, Nat.succ_ne_self, reduceCtorEq, Int.reduceToNat, Int.cast_ofNat_Int, Int.reduceEq, Int.reduceNe, Int.reduceLT, Int.reduceLE]
  refine i_cal H127 ⟨b1, b4, b, 0, 8, rfl, hob1.rules.2.1 (by simp), hob4, hne, hlen, by omega, by omega, fun h4 hbut4 hob4' => ?_⟩
  have hle4 := hbut4.le hle3 hb4h
  have hob1' := hbut4.obj hne hob1
  have e1 : rdBits b 0 8 = num b / 2 ^ 56 := by rw [hnum 0 8 (by omega)]; exact Nat.mod_eq_of_lt (by omega)
  have hk47 : IntKind.i64.wrap (((num b / 2 ^ 56 : Nat) : Int) - 47) = ((num b / 2 ^ 56 : Nat) : Int) - 47 := by rw [w64 (by omega) (by omega)]
  rw [e1]
  try simp (disch := first | omega | (simp only [PL]; omega)) only [PS, P1, P2, P3, P4, P5, P6, P7, P8, PA, PB, PC, Nat.reduceAdd, Nat.reduceSub, Nat.reduceMul, Nat.reduceLeDiff, Nat.reduceEqDiff, Nat.succ_ne_self, reduceCtorEq, Int.reduceToNat, Int.cast_ofNat_Int, Int.reduceEq, Int.reduceNe, Int.reduceLT, Int.reduceLE, hk47]
  refine i_cal H127 ⟨b1, b4, b, 8, 3, rfl, hob1'.rules.2.1 (by simp), hob4', hne, hlen, by omega, by omega, fun h5 hbut5 hob5 => ?_⟩
  have hle5 := hbut5.le hle4 hb4h
  have hob15 := hbut5.obj hne hob1'
  have e2 : rdBits b 8 3 = num b / 2 ^ 53 % 8 := hnum 8 3 (by omega)
  rw [e2]
  try simp (disch := first | omega | (simp only [PL]; omega)) only [PS, P1, P2, P3, P4, P5, P6, P7, P8, PA, PB, PC, Nat.reduceAdd, Nat.reduceSub, Nat.reduceMul, Nat.reduceLeDiff, Nat.reduceEqDiff, Nat.succ_ne_self, reduceCtorEq, Int.reduceToNat, Int.cast_ofNat_Int, Int.reduceEq, Int.reduceNe, Int.reduceLT, Int.reduceLE]
  refine i_cal H127 ⟨b1, b4, b, 11, 3, rfl, hob15.rules.2.1 (by simp), hob5, hne, hlen, by omega, by omega, fun h6 hbut6 hob6 => ?_⟩
  have hle6 := hbut6.le hle5 hb4h
  have hob16 := hbut6.obj hne hob15
  have e3 : rdBits b 11 3 = num b / 2 ^ 50 % 8 := hnum 11 3 (by omega)
  rw [e3]
  try simp (disch := first | omega | (simp only [PL]; omega)) only [PS, P1, P2, P3, P4, P5, P6, P7, P8, PA, PB, PC, Nat.reduceAdd, Nat.reduceSub, Nat.reduceMul, Nat.reduceLeDiff, Nat.reduceEqDiff, Nat.succ_ne_self, reduceCtorEq, Int.reduceToNat, Int.cast_ofNat_Int, Int.reduceEq, Int.reduceNe, Int.reduceLT, Int.reduceLE]
  refine i_call H79 ⟨_, rfl, ?_⟩
  cases hp : partsOf ((num b / 2 ^ 50 % 8 : Nat) : Int) with
  | none =>
    rw [hp] at hK
    simp only [Option.getD, Option.isSome, Tg.zero, aggT] at hK
    simp only [paV, hp, Option.elim]
    try simp (disch := first | omega | (simp only [PL]; omega)) only [PS, P1, P2, P3, P4, P5, P6, P7, P8, PA, PB, PC, Nat.reduceAdd, Nat.reduceSub, Nat.reduceMul, Nat.reduceLeDiff, Nat.reduceEqDiff, Nat.succ_ne_self, reduceCtorEq, Int.reduceToNat, Int.cast_ofNat_Int, Int.reduceEq, Int.reduceNe, Int.reduceLT, Int.reduceLE]
    refine i_newO fun b7 h7 hle7 hb7 ho7 => ?_
    try simp (disch := first | omega | (simp only [PL]; omega)) only [PS, P1, P2, P3, P4, P5, P6, P7, P8, PA, PB, PC, Nat.reduceAdd, Nat.reduceSub, Nat.reduceMul, Nat.reduceLeDiff, Nat.reduceEqDiff, Nat.succ_ne_self, reduceCtorEq, Int.reduceToNat, Int.cast_ofNat_Int, Int.reduceEq, Int.reduceNe, Int.reduceLT, Int.reduceLE]
    refine i_st (ho7.le (fr_le _ _)) 0 4 rfl rfl (by omega) (Nat.le_refl 4) fun o7 hob7 _ => ?_
    try simp (disch := first | omega | (simp only [PL]; omega)) only [PS, P1, P2, P3, P4, P5, P6, P7, P8, PA, PB, PC, Nat.reduceAdd, Nat.reduceSub, Nat.reduceMul, Nat.reduceLeDiff, Nat.reduceEqDiff, Nat.succ_ne_self, reduceCtorEq, Int.reduceToNat, Int.cast_ofNat_Int, Int.reduceEq, Int.reduceNe, Int.reduceLT, Int.reduceLE]
    exact hK _ (but.le (b := b7) (hle6.trans hle7) (le_none hle6 b7 hb7) fun x hx => Heap.set_ne hx)
  | some a =>
    rw [hp] at hK
    have hpa := partsOf_some hp
    simp only [paV, hp, Option.elim, Pa.enc]
    try simp (disch := first | omega | (simp only [PL]; omega)) only [PS, P1, P2, P3, P4, P5, P6, P7, P8, PA, PB, PC, Nat.reduceAdd, Nat.reduceSub, Nat.reduceMul, Nat.reduceLeDiff, Nat.reduceEqDiff, Nat.succ_ne_self, reduceCtorEq, Int.reduceToNat, Int.cast_ofNat_Int, Int.reduceEq, Int.reduceNe, Int.reduceLT, Int.reduceLE]
    refine i_newO fun b7 h7 hle7 hb7 ho7 => ?_
    try simp (disch := first | omega | (simp only [PL]; omega)) only [PS, P1, P2, P3, P4, P5, P6, P7, P8, PA, PB, PC, Nat.reduceAdd, Nat.reduceSub, Nat.reduceMul, Nat.reduceLeDiff, Nat.reduceEqDiff, Nat.succ_ne_self, reduceCtorEq, Int.reduceToNat, Int.cast_ofNat_Int, Int.reduceEq, Int.reduceNe, Int.reduceLT, Int.reduceLE]
    refine i_st (ho7.le (fr_le _ _)) 0 4 rfl rfl (by omega) (Nat.le_refl 4) fun o7 hob7 _ => ?_
    have hob72 : objAt (h7.set b7 o7) ⟨b7, 0, none⟩ [.int .i64 a.cb, .int .i64 a.cd, .int .i64 a.rb, .int .i64 a.rd] := hob7 h7 rfl
    have hb7h : h b7 = none := le_none hle6 b7 hb7
    have hne17 : b1 ≠ b7 := by rintro rfl; exact objAt.nn hob16 hb7
    have hne47 : b4 ≠ b7 := by rintro rfl; exact objAt.nn hob6 hb7
    have hle8 : Heap.le h (h7.set b7 o7) := but.le (b := b7) (hle6.trans hle7) hb7h fun x hx => Heap.set_ne hx
    have hob18 : objAt (h7.set b7 o7) ⟨b1, 0, none⟩ [.string (str b)] := but.obj (b := b7) (fun x hx => Heap.set_ne hx) hne17 (hob16.le hle7)
    have hob48 : objAt (h7.set b7 o7) ⟨b4, 0, none⟩ [.int .i64 (11 + 3 : Nat)] := but.obj (b := b7) (fun x hx => Heap.set_ne hx) hne47 (hob6.le hle7)
    generalize h7.set b7 o7 = h8 at *
    have haa0 : ∀ h (k : IntKind), o2V h (.aadr 4 1) (.v (.pointer (some ⟨b7, 0, none⟩))) (.v (.int k 0)) = some (.v (.pointer (some ⟨b7, 0, none⟩))) := fun h k => rfl
    have haa2 : ∀ h (k : IntKind), o2V h (.aadr 4 1) (.v (.pointer (some ⟨b7, 0, none⟩))) (.v (.int k 2)) = some (.v (.pointer (some ((⟨b7, 0, none⟩ : Addr).add 2)))) := fun h k => rfl
    have C0 : h8.cell ⟨b7, 0, none⟩ = some (.int .i64 a.cb) := hob72.rules.2.1 (by simp)
    try simp (disch := first | omega | (simp only [PL]; omega)) only [PS, P1, P2, P3, P4, P5, P6, P7, P8, PA, PB, PC, Nat.reduceAdd, Nat.reduceSub, Nat.reduceMul, Nat.reduceLeDiff, Nat.reduceEqDiff, Nat.succ_ne_self, reduceCtorEq, Int.reduceToNat, Int.cast_ofNat_Int, Int.reduceEq, Int.reduceNe, Int.reduceLT, Int.reduceLE, haa0, C0]
    refine i_cal H127 ⟨b1, b4, b, 14, a.cb, rfl, hob18.rules.2.1 (by simp), hob48, hne, hlen, by omega, by omega, fun h9 hbut9 hob9 => ?_⟩
    have hle9 := hbut9.le hle8 hb4h
    have hob19 := hbut9.obj hne hob18
    have hob79 := hbut9.obj (a := ⟨b7, 0, none⟩) (Ne.symm hne47) hob72
    have C2 : h9.cell ((⟨b7, 0, none⟩ : Addr).add 2) = some (.int .i64 a.rb) := hob79.rules.1 2 (by simp)
    have e4 : rdBits b 14 a.cb = num b / 2 ^ (24 + a.rb) % 2 ^ a.cb := by rw [hnum 14 a.cb (by omega)]; congr 3; omega
    rw [e4]
    try simp (disch := first | omega | (simp only [PL]; omega)) only [PS, P1, P2, P3, P4, P5, P6, P7, P8, PA, PB, PC, Nat.reduceAdd, Nat.reduceSub, Nat.reduceMul, Nat.reduceLeDiff, Nat.reduceEqDiff, Nat.succ_ne_self, reduceCtorEq, Int.reduceToNat, Int.cast_ofNat_Int, Int.reduceEq, Int.reduceNe, Int.reduceLT, Int.reduceLE, haa2, C2]
    refine i_cal H127 ⟨b1, b4, b, 14 + a.cb, a.rb, rfl, hob19.rules.2.1 (by simp), hob9, hne, hlen, by omega, by omega, fun h10 hbut10 hob10 => ?_⟩
    have hle10 := hbut10.le hle9 hb4h
    have hob110 := hbut10.obj hne hob19
    have e5 : rdBits b (14 + a.cb) a.rb = num b / 2 ^ 24 % 2 ^ a.rb := by rw [hnum _ _ (by omega)]; congr 3; omega
    rw [e5]
    try simp (disch := first | omega | (simp only [PL]; omega)) only [PS, P1, P2, P3, P4, P5, P6, P7, P8, PA, PB, PC, Nat.reduceAdd, Nat.reduceSub, Nat.reduceMul, Nat.reduceLeDiff, Nat.reduceEqDiff, Nat.succ_ne_self, reduceCtorEq, Int.reduceToNat, Int.cast_ofNat_Int, Int.reduceEq, Int.reduceNe, Int.reduceLT, Int.reduceLE]
    refine i_cal H127 ⟨b1, b4, b, 14 + a.cb + a.rb, 24, rfl, hob110.rules.2.1 (by simp), hob10, hne, hlen, by omega, by omega, fun h11 hbut11 hob11 => ?_⟩
    have hle11 := hbut11.le hle10 hb4h
    have e6 : rdBits b (14 + a.cb + a.rb) 24 = num b % 2 ^ 24 := by rw [hnum _ _ (by omega)]; congr 1; rw [show 64 - (14 + a.cb + a.rb) - 24 = 0 by omega]; simp
    rw [e6]
    try simp (disch := first | omega | (simp only [PL]; omega)) only [PS, P1, P2, P3, P4, P5, P6, P7, P8, PA, PB, PC, Nat.reduceAdd, Nat.reduceSub, Nat.reduceMul, Nat.reduceLeDiff, Nat.reduceEqDiff, Nat.succ_ne_self, reduceCtorEq, Int.reduceToNat, Int.cast_ofNat_Int, Int.reduceEq, Int.reduceNe, Int.reduceLT, Int.reduceLE]
    have hcl : num b / 2 ^ (24 + a.rb) % 2 ^ a.cb < 2 ^ 30 := Nat.lt_of_lt_of_le (Nat.mod_lt _ (Nat.pow_pos (by omega))) (Nat.pow_le_pow_right (by omega) (by omega))
    have hrl : num b / 2 ^ 24 % 2 ^ a.rb < 2 ^ 30 := Nat.lt_of_lt_of_le (Nat.mod_lt _ (Nat.pow_pos (by omega))) (Nat.pow_le_pow_right (by omega) (by omega))
    refine i_call H128 ⟨tagAt (num b) a, rfl, by simp only [tagAt]; omega, by simp only [tagAt]; omega, fun h12 hle12 => ?_⟩
    dsimp only at hK
    by_cases hbad : (tagAt (num b) a).bad
    · rw [if_pos hbad] at hK
      rw [fault_bad hbad]
      simp only [Option.getD, Option.isSome, Tg.zero, aggT] at hK
      try simp (disch := first | omega | (simp only [PL]; omega)) only [PS, P1, P2, P3, P4, P5, P6, P7, P8, PA, PB, PC, Nat.reduceAdd, Nat.reduceSub, Nat.reduceMul, Nat.reduceLeDiff, Nat.reduceEqDiff, Nat.succ_ne_self, reduceCtorEq, Int.reduceToNat, Int.cast_ofNat_Int, Int.reduceEq, Int.reduceNe, Int.reduceLT, Int.reduceLE]
      exact hK h12 (hle11.trans hle12)
    · rw [if_neg hbad] at hK
      rw [fault_ok hbad]
      simp only [Option.getD, Option.isSome, aggT, tagAt] at hK
      try simp (disch := first | omega | (simp only [PL]; omega)) only [PS, P1, P2, P3, P4, P5, P6, P7, P8, PA, PB, PC, Nat.reduceAdd, Nat.reduceSub, Nat.reduceMul, Nat.reduceLeDiff, Nat.reduceEqDiff, Nat.succ_ne_self, reduceCtorEq, Int.reduceToNat, Int.cast_ofNat_Int, Int.reduceEq, Int.reduceNe, Int.reduceLT, Int.reduceLE]
      exact hK h12 (hle11.trans hle12)
end Go.Cw
namespace Go.Cw
open Go

def S106 : Spec := fun args h K => ∃ bn, ∃ n k : Nat, args = [.int .i64 k, .pointer (some ⟨bn, 0, none⟩)] ∧ objAt h ⟨bn, 0, none⟩ [.int .u64 n] ∧ n < 2 ^ 64 ∧ k ≤ 30 ∧ ∀ h', but bn h h' → objAt h' ⟨bn, 0, none⟩ [.int .u64 (n / 2 ^ k : Nat)] → K (.int .i64 (n % 2 ^ k : Nat)) h'
theorem F106_ok {N : Num} {Γ : Ctx} [GoodC Γ] : Sat S106 (SF N Γ F106) := by
  rintro _ h K ⟨bn, n, k, rfl, ho, hn, hk, hK⟩
  refine i_fun rfl ?_
  simp only [F106, env0, List.map, List.length, List.replicate, List.cons_append, List.nil_append, Nat.reduceSub, Nat.reduceAdd]
  have hc : h.cell ⟨bn, 0, none⟩ = some (.int .u64 n) := ho.rules.2.1 (by simp)
  have h2k : 2 ^ k ≤ 2 ^ 30 := Nat.pow_le_pow_right (by omega) hk
  have h2p : 0 < 2 ^ k := Nat.pow_pos (by omega)
  have hsl : binV .shl (.int .u64 1) (.int .i64 (k : Int)) = some (.int .u64 ((2 ^ k : Nat) : Int)) := by
    have := shl_nat .i64 1 k (by omega) (by omega)
    rw [Nat.one_mul] at this; exact this
  have hsub : IntKind.u64.wrap (((2 ^ k : Nat) : Int) - 1) = ((2 ^ k - 1 : Nat) : Int) := by
    rw [show ((2 ^ k : Nat) : Int) - 1 = ((2 ^ k - 1 : Nat) : Int) by omega, wrap_u64 _ (by omega)]
  have han := and_u64 n (2 ^ k - 1) hn (by omega)
  rw [Nat.and_two_pow_sub_one_eq_mod] at han
  have hml : n % 2 ^ k < 2 ^ 30 := Nat.lt_of_lt_of_le (Nat.mod_lt _ h2p) h2k
  have hsr := shr_nat .u64 .i64 n k (by simp [IntKind.bits]; omega)
  try simp (disch := first | omega | (simp only [PL]; omega)) only [PS, P1, P2, P3, P4, P5, P6, P7, P8, PA, PB, PC, Nat.reduceAdd, Nat.reduceSub, Nat.reduceMul, Nat.reduceLeDiff, Nat.reduceEqDiff, Nat.succ_ne_self, reduceCtorEq, Int.reduceToNat, Int.cast_ofNat_Int, Int.reduceEq, Int.reduceNe, Int.reduceLT, Int.reduceLE, hc, hsl, hsub, han, hsr]
  refine i_st ho 0 1 rfl rfl (by omega) (Nat.le_refl 1) fun o hob _ => ?_
  have hob2 : objAt (h.set bn o) ⟨bn, 0, none⟩ [.int .u64 (n / 2 ^ k : Nat)] := hob h rfl
  try simp (disch := first | omega | (simp only [PL]; omega)) only [PS, P1, P2, P3, P4, P5, P6, P7, P8, PA, PB, PC, Nat.reduceAdd, Nat.reduceSub, Nat.reduceMul, Nat.reduceLeDiff, Nat.reduceEqDiff, Nat.succ_ne_self, reduceCtorEq, Int.reduceToNat, Int.cast_ofNat_Int, Int.reduceEq, Int.reduceNe, Int.reduceLT, Int.reduceLE]
  exact hK _ (fun x hx => Heap.set_ne hx) hob2

def S81 (N : Num) : Spec := fun args h K => ∃ b, args = [.string (str b)] ∧ ∀ h', Heap.le h h' → K (.tuple #[tgV b, errV N (if (tagOf b).isSome then 0 else 3)]) h'
theorem num_take {b : List UInt8} {i : Nat} (hi : i < b.length) : num (b.take (i + 1)) = num (b.take i) * 256 + (b.getD i 0).toNat := by rw [take_succ_d 0 hi, num_snoc]
theorem F81_ok {N : Num} {Γ : Ctx} [GoodC Γ] (H106 : Sat S106 (Γ 106)) (H107 : Sat S107 (Γ 107)) (H108 : Sat (S108 N) (Γ 108)) : Sat (S81 N) (SF N Γ F81) := by
  rintro _ h K ⟨b, rfl, hK⟩
  refine i_fun rfl ?_
  simp only [F81, env0, List.map, List.length, List.replicate, List.cons_append, List.nil_append, Nat.reduceSub, Nat.reduceAdd]
  unfold tgV tagOf at hK
  by_cases hlen : b.length = 8
  rotate_left
  · have hl : ((b.length : Int) ≠ 8) = True := by rw [eq_iff_iff]; simp; omega
    rw [if_pos hlen] at hK
    simp only [Option.getD, Option.isSome, Tg.zero, aggT, Bool.false_eq_true, if_false, errV_succ] at hK
    try simp (disch := first | omega | (simp only [PL]; omega)) only [PS, P1, P2, P3, P4, P5, P6, P7, P8, PA, PB, PC, Nat.reduceAdd, Nat.reduceSub, Nat.reduceMul, Nat.reduceLeDiff, Nat.reduceEqDiff, Nat.succ_ne_self, reduceCtorEq, Int.reduceToNat, Int.cast_ofNat_Int, Int.reduceEq, Int.reduceNe, Int.reduceLT, Int.reduceLE, hl]
    exact hK h (Heap.le.refl h)
  have hl : ((b.length : Int) ≠ 8) = False := by rw [eq_iff_iff]; simp; omega
  rw [if_neg (by omega)] at hK
  try simp (disch := first | omega | (simp only [PL]; omega)) only [PS, P1, P2, P3, P4, P5, P6, P7, P8, PA, PB, PC, Nat.reduceAdd, Nat.reduceSub, Nat.reduceMul, Nat.reduceLeDiff, Nat.reduceEqDiff, Nat.succ_ne_self, reduceCtorEq, Int.reduceToNat, Int.cast_ofNat_Int, Int.reduceEq, Int.reduceNe, Int.reduceLT, Int.reduceLE, hl]
  refine i_newO fun b3 h1 hle1 hb3 ho3 => ?_
  try simp (disch := first | omega | (simp only [PL]; omega)) only [PS, P1, P2, P3, P4, P5, P6, P7, P8, PA, PB, PC, Nat.reduceAdd, Nat.reduceSub, Nat.reduceMul, Nat.reduceLeDiff, Nat.reduceEqDiff, Nat.succ_ne_self, reduceCtorEq, Int.reduceToNat, Int.cast_ofNat_Int, Int.reduceEq, Int.reduceNe, Int.reduceLT, Int.reduceLE]
  refine i_st (ho3.le (fr_le _ _)) 0 1 rfl rfl (by omega) (Nat.le_refl 1) fun o hob _ => ?_
  have hob3 : objAt (h1.set b3 o) ⟨b3, 0, none⟩ [.int .u64 (num (b.take 0) : Nat)] := hob h1 rfl
  have hle2 : Heap.le h (h1.set b3 o) := but.le (b := b3) hle1 hb3 fun x hx => Heap.set_ne hx
  generalize h1.set b3 o = h2 at *
  try simp (disch := first | omega | (simp only [PL]; omega)) only [PS, P1, P2, P3, P4, P5, P6, P7, P8, PA, PB, PC, Nat.reduceAdd, Nat.reduceSub, Nat.reduceMul, Nat.reduceLeDiff, Nat.reduceEqDiff, Nat.succ_ne_self, reduceCtorEq, Int.reduceToNat, Int.cast_ofNat_Int, Int.reduceEq, Int.reduceNe, Int.reduceLT, Int.reduceLE]
  refine i_meet_blk (fun env H => Heap.le h H ∧ objAt H ⟨b3, 0, none⟩ [.int .u64 (num b : Nat)] ∧ env = [some (.string (str b)), some (.agg #[.int .i64 0, .int .i64 0, .int .i64 0, .int .i64 0, .int .i64 0, .int .i64 0]), some .nilIface, some (.pointer (some ⟨b3, 0, none⟩)), none, none, none, none, none, none, none, none, none, none, none, none, none, none, none, none, none, none, none, none, none, none, none, none, none, none, none, none, none, none, none]) ?_ ?_
  rotate_left
  · refine i_loop (fun i : Nat => [some (.string (str b)), some (.agg #[.int .i64 0, .int .i64 0, .int .i64 0, .int .i64 0, .int .i64 0, .int .i64 0]), some .nilIface, some (.pointer (some ⟨b3, 0, none⟩)), none, none, none, none, none, none, none, some (.int .i64 b.length), some (.int .i64 i), none, none, none, none, none, none, none, none, none, none, none, none, none, none, none, none, none, none, none, none, none, none])
      (fun i H => i ≤ 8 ∧ Heap.le h H ∧ objAt H ⟨b3, 0, none⟩ [.int .u64 (num (b.take i) : Nat)]) (fun i => 8 - i) 0 (by try simp only [Pe, and_true, true_and, and_self]; rfl) ⟨by omega, hle2, hob3⟩ ?_
    rintro i H ⟨hi, hle, ho⟩
    have hc : H.cell ⟨b3, 0, none⟩ = some (.int .u64 (num (b.take i) : Nat)) := ho.rules.2.1 (by simp)
    try simp (disch := first | omega | (simp only [PL]; omega)) only [PS, P1, P2, P3, P4, P5, P6, P7, P8, PA, PB, PC, Nat.reduceAdd, Nat.reduceSub, Nat.reduceMul, Nat.reduceLeDiff, Nat.reduceEqDiff, Nat.succ_ne_self, reduceCtorEq, Int.reduceToNat, Int.cast_ofNat_Int, Int.reduceEq, Int.reduceNe, Int.reduceLT, Int.reduceLE]
    refine i_cond (fun c1 => ?_) (fun c1 => ?_)
    rotate_left
    · have : i = b.length := by omega
      subst this
      rw [List.take_length] at ho
      try simp (disch := first | omega | (simp only [PL]; omega)) only [PS, P1, P2, P3, P4, P5, P6, P7, P8, PA, PB, PC, Nat.reduceAdd, Nat.reduceSub, Nat.reduceMul, Nat.reduceLeDiff, Nat.reduceEqDiff, Nat.succ_ne_self, reduceCtorEq, Int.reduceToNat, Int.cast_ofNat_Int, Int.reduceEq, Int.reduceNe, Int.reduceLT, Int.reduceLE]
      exact k_meet _ (by try simp only [Pe, and_true, true_and, and_self]) ⟨hle, ho, rfl⟩
    have hi2 : i < b.length := by omega
    have hnl := num_lt (b.take i)
    have hnl2 : num (b.take i) < 256 ^ 7 := Nat.lt_of_lt_of_le hnl (Nat.pow_le_pow_right (by omega) (by rw [List.length_take]; omega))
    have hbyte := (b.getD i 0).toNat_lt
    have hsl := shl_nat .u64 (num (b.take i)) 8 (by omega) (by omega)
    have hcv : IntKind.u64.wrap (((b.getD i 0).toNat : Nat) : Int) = (((b.getD i 0).toNat : Nat) : Int) := wrap_u64 _ (by omega)
    have hor := or_u64 (num (b.take i) * 2 ^ 8) (b.getD i 0).toNat (by omega) (by omega)
    have hor2 : num (b.take i) * 2 ^ 8 ||| (b.getD i 0).toNat = num (b.take (i + 1)) := by
      rw [num_take hi2, Nat.mul_comm _ (2 ^ 8), ← Nat.two_pow_add_eq_or_of_lt (by omega)]
    rw [hor2] at hor
    have hsl' : binV .shl (.int .u64 (num (b.take i) : Nat)) (.int .u64 8) = some (.int .u64 ((num (b.take i) * 2 ^ 8 : Nat) : Int)) := hsl
    try simp (disch := first | omega | (simp only [PL]; omega)) only [PS, P1, P2, P3, P4, P5, P6, P7, P8, PA, PB, PC, Nat.reduceAdd, Nat.reduceSub, Nat.reduceMul, Nat.reduceLeDiff, Nat.reduceEqDiff, Nat.succ_ne_self, reduceCtorEq, Int.reduceToNat, Int.cast_ofNat_Int, Int.reduceEq, Int.reduceNe, Int.reduceLT, Int.reduceLE, hc, hsl', hcv, hor]
    refine i_st ho 0 1 rfl rfl (by omega) (Nat.le_refl 1) fun o2 hob' _ => ?_
    have hob4 : objAt (H.set b3 o2) ⟨b3, 0, none⟩ [.int .u64 (num (b.take (i + 1)) : Nat)] := hob' H rfl
    try simp (disch := first | omega | (simp only [PL]; omega)) only [PS, P1, P2, P3, P4, P5, P6, P7, P8, PA, PB, PC, Nat.reduceAdd, Nat.reduceSub, Nat.reduceMul, Nat.reduceLeDiff, Nat.reduceEqDiff, Nat.succ_ne_self, reduceCtorEq, Int.reduceToNat, Int.cast_ofNat_Int, Int.reduceEq, Int.reduceNe, Int.reduceLT, Int.reduceLE]
    exact k_loop (i + 1) (by omega) (by try simp only [Pe, and_true, true_and, and_self]) ⟨by omega, but.le (b := b3) hle hb3 fun x hx => Heap.set_ne hx, hob4⟩
  rintro env H ⟨hle, ho, rfl⟩
  have hnlt := num_lt b
  rw [hlen] at hnlt
  generalize num b = n at *
  try simp (disch := first | omega | (simp only [PL]; omega)) only [PS, P1, P2, P3, P4, P5, P6, P7, P8, PA, PB, PC, Nat.reduceAdd, Nat.reduceSub, Nat.reduceMul, Nat.reduceLeDiff, Nat.reduceEqDiff, Nat.succ_ne_self, reduceCtorEq, Int.reduceToNat, Int.cast_ofNat_Int, Int.reduceEq, Int.reduceNe, Int.reduceLT, Int.reduceLE]
  refine i_newO fun b6 h3 hle3 hb6 ho6 => ?_
  have hne : b3 ≠ b6 := by rintro rfl; exact objAt.nn ho hb6
  have ho6' : objAt h3 ⟨b6, 0, none⟩ [.int .i64 0, .int .i64 0, .int .i64 0, .int .i64 0, .int .i64 0, .int .i64 0] := ho6.le (fr_le _ _)
  have hb6h : h b6 = none := le_none hle b6 hb6
  try simp (disch := first | omega | (simp only [PL]; omega)) only [PS, P1, P2, P3, P4, P5, P6, P7, P8, PA, PB, PC, Nat.reduceAdd, Nat.reduceSub, Nat.reduceMul, Nat.reduceLeDiff, Nat.reduceEqDiff, Nat.succ_ne_self, reduceCtorEq, Int.reduceToNat, Int.cast_ofNat_Int, Int.reduceEq, Int.reduceNe, Int.reduceLT, Int.reduceLE]
  refine i_cal H106 ⟨b3, n, 24, rfl, ho.le hle3, by omega, by omega, fun h4 hbut4 hob4 => ?_⟩
  have hle4 := hbut4.le (hle.trans hle3) hb3
  have ho64 := hbut4.obj (a := ⟨b6, 0, none⟩) (Ne.symm hne) ho6'
  try simp (disch := first | omega | (simp only [PL]; omega)) only [PS, P1, P2, P3, P4, P5, P6, P7, P8, PA, PB, PC, Nat.reduceAdd, Nat.reduceSub, Nat.reduceMul, Nat.reduceLeDiff, Nat.reduceEqDiff, Nat.succ_ne_self, reduceCtorEq, Int.reduceToNat, Int.cast_ofNat_Int, Int.reduceEq, Int.reduceNe, Int.reduceLT, Int.reduceLE]
  refine i_st ho64 5 1 rfl rfl (by omega) (by simp) fun o5 hob5 _ => ?_
  have ho65 : objAt (h4.set b6 o5) ⟨b6, 0, none⟩ [.int .i64 0, .int .i64 0, .int .i64 0, .int .i64 0, .int .i64 0, .int .i64 (n % 2 ^ 24 : Nat)] := hob5 h4 rfl
  have ho35 : objAt (h4.set b6 o5) ⟨b3, 0, none⟩ [.int .u64 (n / 2 ^ 24 : Nat)] := but.obj (b := b6) (fun x hx => Heap.set_ne hx) hne hob4
  have hle5 : Heap.le h (h4.set b6 o5) := but.le (b := b6) hle4 hb6h fun x hx => Heap.set_ne hx
  generalize h4.set b6 o5 = h5 at *
  have hc3 : h5.cell ⟨b3, 0, none⟩ = some (.int .u64 (n / 2 ^ 24 : Nat)) := ho35.rules.2.1 (by simp)
  have hsr := shr_nat .u64 .u64 (n / 2 ^ 24) 26 (by simp [IntKind.bits])
  have e50 : n / 2 ^ 24 / 2 ^ 26 = n / 2 ^ 50 := by rw [Nat.div_div_eq_div_mul, ← Nat.pow_add]
  rw [e50] at hsr
  have hsr' : binV .shr (.int .u64 ((n / 2 ^ 24 : Nat) : Int)) (.int .u64 26) = some (.int .u64 ((n / 2 ^ 50 : Nat) : Int)) := hsr
  have han := and_u64 (n / 2 ^ 50) 7 (by omega) (by omega)
  rw [show (7 : Nat) = 2 ^ 3 - 1 from rfl, Nat.and_two_pow_sub_one_eq_mod] at han
  have han' : binV .and (.int .u64 ((n / 2 ^ 50 : Nat) : Int)) (.int .u64 7) = some (.int .u64 ((n / 2 ^ 50 % 8 : Nat) : Int)) := han
  have hw : IntKind.i64.wrap ((n / 2 ^ 50 % 8 : Nat) : Int) = ((n / 2 ^ 50 % 8 : Nat) : Int) := w64 (by omega) (by omega)
  try simp (disch := first | omega | (simp only [PL]; omega)) only [PS, P1, P2, P3, P4, P5, P6, P7, P8, PA, PB, PC, Nat.reduceAdd, Nat.reduceSub, Nat.reduceMul, Nat.reduceLeDiff, Nat.reduceEqDiff, Nat.succ_ne_self, reduceCtorEq, Int.reduceToNat, Int.cast_ofNat_Int, Int.reduceEq, Int.reduceNe, Int.reduceLT, Int.reduceLE, hc3, hsr', han', hw]
  refine i_call H107 ⟨_, rfl, fun h6 hle6 => ?_⟩
  cases hp : partsOf ((n / 2 ^ 50 % 8 : Nat) : Int) with
  | none =>
    rw [hp] at hK
    simp only [Option.getD, Option.isSome, Tg.zero, aggT, Bool.false_eq_true, if_false, errV_succ] at hK
    simp only [paV, hp, Option.elim]
    try simp (disch := first | omega | (simp only [PL]; omega)) only [PS, P1, P2, P3, P4, P5, P6, P7, P8, PA, PB, PC, Nat.reduceAdd, Nat.reduceSub, Nat.reduceMul, Nat.reduceLeDiff, Nat.reduceEqDiff, Nat.succ_ne_self, reduceCtorEq, Int.reduceToNat, Int.cast_ofNat_Int, Int.reduceEq, Int.reduceNe, Int.reduceLT, Int.reduceLE]
    exact hK h6 (hle5.trans hle6)
  | some a =>
    rw [hp] at hK
    have hpa := partsOf_some hp
    simp only [paV, hp, Option.elim, Pa.enc]
    try simp (disch := first | omega | (simp only [PL]; omega)) only [PS, P1, P2, P3, P4, P5, P6, P7, P8, PA, PB, PC, Nat.reduceAdd, Nat.reduceSub, Nat.reduceMul, Nat.reduceLeDiff, Nat.reduceEqDiff, Nat.succ_ne_self, reduceCtorEq, Int.reduceToNat, Int.cast_ofNat_Int, Int.reduceEq, Int.reduceNe, Int.reduceLT, Int.reduceLE]
    have ho36 := ho35.le hle6
    have ho66 := ho65.le hle6
    have hle6' := hle5.trans hle6
    have hemp : ∀ H, Heap.le (fun _ => none) H := fun H x o hx => by cases hx
    refine i_cal H106 ⟨b3, n / 2 ^ 24, a.rb, rfl, ho36, by omega, by omega, fun h7 hbut7 hob7 => ?_⟩
    have hle7 := hbut7.le hle6' hb3
    have ho67 := hbut7.obj (a := ⟨b6, 0, none⟩) (Ne.symm hne) ho66
    refine i_lex (fun _ => none) (hemp _) ?_ (le_one (hemp _)) ?_
    · intro l' hl'
      simp only [List.mem_singleton] at hl'
      subst hl'
      exact ⟨true, rfl, fun _ => ⟨.v (.int .i64 a.cb), by try simp (disch := first | omega | (simp only [PL]; omega)) only [PS, P1, P2, P3, P4, P5, P6, P7, P8, PA, PB, PC, Nat.reduceAdd, Nat.reduceSub, Nat.reduceMul, Nat.reduceLeDiff, Nat.reduceEqDiff, Nat.succ_ne_self, reduceCtorEq, Int.reduceToNat, Int.cast_ofNat_Int, Int.reduceEq, Int.reduceNe, Int.reduceLT, Int.reduceLE]⟩⟩
    have en : n / 2 ^ 24 / 2 ^ a.rb = n / 2 ^ (24 + a.rb) := by rw [Nat.div_div_eq_div_mul, ← Nat.pow_add]
    rw [en] at hob7
    have hnl2 : n / 2 ^ (24 + a.rb) < 2 ^ 64 := Nat.lt_of_le_of_lt (Nat.div_le_self _ _) (by omega)
    try simp (disch := first | omega | (simp only [PL]; omega)) only [PS, P1, P2, P3, P4, P5, P6, P7, P8, PA, PB, PC, Nat.reduceAdd, Nat.reduceSub, Nat.reduceMul, Nat.reduceLeDiff, Nat.reduceEqDiff, Nat.succ_ne_self, reduceCtorEq, Int.reduceToNat, Int.cast_ofNat_Int, Int.reduceEq, Int.reduceNe, Int.reduceLT, Int.reduceLE]
    refine i_cal H106 ⟨b3, n / 2 ^ (24 + a.rb), a.cb, rfl, hob7, hnl2, by omega, fun h8 hbut8 hob8 => ?_⟩
    have hle8 := hbut8.le hle7 hb3
    have ho68 := hbut8.obj (a := ⟨b6, 0, none⟩) (Ne.symm hne) ho67
    have en2 : n / 2 ^ (24 + a.rb) / 2 ^ a.cb = n / 2 ^ 50 := by
      rw [Nat.div_div_eq_div_mul, ← Nat.pow_add]
      congr 2; omega
    rw [en2] at hob8
    try simp (disch := first | omega | (simp only [PL]; omega)) only [PS, P1, P2, P3, P4, P5, P6, P7, P8, PA, PB, PC, Nat.reduceAdd, Nat.reduceSub, Nat.reduceMul, Nat.reduceLeDiff, Nat.reduceEqDiff, Nat.succ_ne_self, reduceCtorEq, Int.reduceToNat, Int.cast_ofNat_Int, Int.reduceEq, Int.reduceNe, Int.reduceLT, Int.reduceLE]
    have hcl := Nat.mod_lt (n / 2 ^ (24 + a.rb)) (Nat.pow_pos (n := a.cb) (show 0 < 2 by omega))
    have hcl2 : 2 ^ a.cb ≤ 2 ^ 30 := Nat.pow_le_pow_right (by omega) (by omega)
    have hrl := Nat.mod_lt (n / 2 ^ 24) (Nat.pow_pos (n := a.rb) (show 0 < 2 by omega))
    have hrl2 : 2 ^ a.rb ≤ 2 ^ 30 := Nat.pow_le_pow_right (by omega) (by omega)
    refine i_cal H106 ⟨b3, n / 2 ^ 50, 3, rfl, hob8, by omega, by omega, fun h9 hbut9 hob9 => ?_⟩
    have hle9 := hbut9.le hle8 hb3
    have ho69 := hbut9.obj (a := ⟨b6, 0, none⟩) (Ne.symm hne) ho68
    have en3 : n / 2 ^ 50 / 2 ^ 3 = n / 2 ^ 53 := by rw [Nat.div_div_eq_div_mul, ← Nat.pow_add]
    rw [en3] at hob9
    try simp (disch := first | omega | (simp only [PL]; omega)) only [PS, P1, P2, P3, P4, P5, P6, P7, P8, PA, PB, PC, Nat.reduceAdd, Nat.reduceSub, Nat.reduceMul, Nat.reduceLeDiff, Nat.reduceEqDiff, Nat.succ_ne_self, reduceCtorEq, Int.reduceToNat, Int.cast_ofNat_Int, Int.reduceEq, Int.reduceNe, Int.reduceLT, Int.reduceLE]
    refine i_cal H106 ⟨b3, n / 2 ^ 53, 3, rfl, hob9, by omega, by omega, fun h10 hbut10 hob10 => ?_⟩
    have hle10 := hbut10.le hle9 hb3
    have ho610 := hbut10.obj (a := ⟨b6, 0, none⟩) (Ne.symm hne) ho69
    have en4 : n / 2 ^ 53 / 2 ^ 3 = n / 2 ^ 56 := by rw [Nat.div_div_eq_div_mul, ← Nat.pow_add]
    rw [en4] at hob10
    try simp (disch := first | omega | (simp only [PL]; omega)) only [PS, P1, P2, P3, P4, P5, P6, P7, P8, PA, PB, PC, Nat.reduceAdd, Nat.reduceSub, Nat.reduceMul, Nat.reduceLeDiff, Nat.reduceEqDiff, Nat.succ_ne_self, reduceCtorEq, Int.reduceToNat, Int.cast_ofNat_Int, Int.reduceEq, Int.reduceNe, Int.reduceLT, Int.reduceLE]
    refine i_cal H106 ⟨b3, n / 2 ^ 56, 8, rfl, hob10, by omega, by omega, fun h11 hbut11 hob11 => ?_⟩
    have hle11 := hbut11.le hle10 hb3
    have ho611 := hbut11.obj (a := ⟨b6, 0, none⟩) (Ne.symm hne) ho610
    have en5 : n / 2 ^ 56 % 2 ^ 8 = n / 2 ^ 56 := Nat.mod_eq_of_lt (by omega)
    rw [en5]
    have hk47 : IntKind.i64.wrap (((n / 2 ^ 56 : Nat) : Int) - 47) = ((n / 2 ^ 56 : Nat) : Int) - 47 := by rw [w64 (by omega) (by omega)]
    try simp (disch := first | omega | (simp only [PL]; omega)) only [PS, P1, P2, P3, P4, P5, P6, P7, P8, PA, PB, PC, Nat.reduceAdd, Nat.reduceSub, Nat.reduceMul, Nat.reduceLeDiff, Nat.reduceEqDiff, Nat.succ_ne_self, reduceCtorEq, Int.reduceToNat, Int.cast_ofNat_Int, Int.reduceEq, Int.reduceNe, Int.reduceLT, Int.reduceLE, hk47]
    refine i_st ho611 4 1 rfl rfl (by omega) (by simp) fun o12 hob12 _ => ?_
    have hobA : objAt (h11.set b6 o12) ⟨b6, 0, none⟩ [.int .i64 0, .int .i64 0, .int .i64 0, .int .i64 0, .int .i64 (n / 2 ^ 24 % 2 ^ a.rb : Nat), .int .i64 (n % 2 ^ 24 : Nat)] := hob12 h11 rfl
    have hle12 : Heap.le h (h11.set b6 o12) := but.le (b := b6) hle11 hb6h fun x hx => Heap.set_ne hx
    generalize h11.set b6 o12 = h12 at *
    try simp (disch := first | omega | (simp only [PL]; omega)) only [PS, P1, P2, P3, P4, P5, P6, P7, P8, PA, PB, PC, Nat.reduceAdd, Nat.reduceSub, Nat.reduceMul, Nat.reduceLeDiff, Nat.reduceEqDiff, Nat.succ_ne_self, reduceCtorEq, Int.reduceToNat, Int.cast_ofNat_Int, Int.reduceEq, Int.reduceNe, Int.reduceLT, Int.reduceLE]
    refine i_st hobA 3 1 rfl rfl (by omega) (by simp) fun o13 hob13 _ => ?_
    have hobB : objAt (h12.set b6 o13) ⟨b6, 0, none⟩ [.int .i64 0, .int .i64 0, .int .i64 0, .int .i64 (n / 2 ^ (24 + a.rb) % 2 ^ a.cb : Nat), .int .i64 (n / 2 ^ 24 % 2 ^ a.rb : Nat), .int .i64 (n % 2 ^ 24 : Nat)] := hob13 h12 rfl
    have hle13 : Heap.le h (h12.set b6 o13) := but.le (b := b6) hle12 hb6h fun x hx => Heap.set_ne hx
    generalize h12.set b6 o13 = h13 at *
    try simp (disch := first | omega | (simp only [PL]; omega)) only [PS, P1, P2, P3, P4, P5, P6, P7, P8, PA, PB, PC, Nat.reduceAdd, Nat.reduceSub, Nat.reduceMul, Nat.reduceLeDiff, Nat.reduceEqDiff, Nat.succ_ne_self, reduceCtorEq, Int.reduceToNat, Int.cast_ofNat_Int, Int.reduceEq, Int.reduceNe, Int.reduceLT, Int.reduceLE]
    refine i_st hobB 2 1 rfl rfl (by omega) (by simp) fun o14 hob14 _ => ?_
    have hobC : objAt (h13.set b6 o14) ⟨b6, 0, none⟩ [.int .i64 0, .int .i64 0, .int .i64 (n / 2 ^ 50 % 2 ^ 3 : Nat), .int .i64 (n / 2 ^ (24 + a.rb) % 2 ^ a.cb : Nat), .int .i64 (n / 2 ^ 24 % 2 ^ a.rb : Nat), .int .i64 (n % 2 ^ 24 : Nat)] := hob14 h13 rfl
    have hle14 : Heap.le h (h13.set b6 o14) := but.le (b := b6) hle13 hb6h fun x hx => Heap.set_ne hx
    generalize h13.set b6 o14 = h14 at *
    try simp (disch := first | omega | (simp only [PL]; omega)) only [PS, P1, P2, P3, P4, P5, P6, P7, P8, PA, PB, PC, Nat.reduceAdd, Nat.reduceSub, Nat.reduceMul, Nat.reduceLeDiff, Nat.reduceEqDiff, Nat.succ_ne_self, reduceCtorEq, Int.reduceToNat, Int.cast_ofNat_Int, Int.reduceEq, Int.reduceNe, Int.reduceLT, Int.reduceLE]
    refine i_st hobC 1 1 rfl rfl (by omega) (by simp) fun o15 hob15 _ => ?_
    have hobD : objAt (h14.set b6 o15) ⟨b6, 0, none⟩ [.int .i64 0, .int .i64 (n / 2 ^ 53 % 2 ^ 3 : Nat), .int .i64 (n / 2 ^ 50 % 2 ^ 3 : Nat), .int .i64 (n / 2 ^ (24 + a.rb) % 2 ^ a.cb : Nat), .int .i64 (n / 2 ^ 24 % 2 ^ a.rb : Nat), .int .i64 (n % 2 ^ 24 : Nat)] := hob15 h14 rfl
    have hle15 : Heap.le h (h14.set b6 o15) := but.le (b := b6) hle14 hb6h fun x hx => Heap.set_ne hx
    generalize h14.set b6 o15 = h15 at *
    try simp (disch := first | omega | (simp only [PL]; omega)) only [PS, P1, P2, P3, P4, P5, P6, P7, P8, PA, PB, PC, Nat.reduceAdd, Nat.reduceSub, Nat.reduceMul, Nat.reduceLeDiff, Nat.reduceEqDiff, Nat.succ_ne_self, reduceCtorEq, Int.reduceToNat, Int.cast_ofNat_Int, Int.reduceEq, Int.reduceNe, Int.reduceLT, Int.reduceLE]
    refine i_st hobD 0 1 rfl rfl (by omega) (by simp) fun o16 hob16 _ => ?_
    have hobE : objAt (h15.set b6 o16) ⟨b6, 0, none⟩ [.int .i64 (((n / 2 ^ 56 : Nat) : Int) - 47), .int .i64 (n / 2 ^ 53 % 2 ^ 3 : Nat), .int .i64 (n / 2 ^ 50 % 2 ^ 3 : Nat), .int .i64 (n / 2 ^ (24 + a.rb) % 2 ^ a.cb : Nat), .int .i64 (n / 2 ^ 24 % 2 ^ a.rb : Nat), .int .i64 (n % 2 ^ 24 : Nat)] := hob16 h15 rfl
    have hle16 : Heap.le h (h15.set b6 o16) := but.le (b := b6) hle15 hb6h fun x hx => Heap.set_ne hx
    generalize h15.set b6 o16 = h16 at *
    have hrowG : ∀ H, Heap.le h16 H → H.row ⟨b6, 0, none⟩ 6 = some #[.int .i64 (((n / 2 ^ 56 : Nat) : Int) - 47), .int .i64 (n / 2 ^ 53 % 2 ^ 3 : Nat), .int .i64 (n / 2 ^ 50 % 2 ^ 3 : Nat), .int .i64 (n / 2 ^ (24 + a.rb) % 2 ^ a.cb : Nat), .int .i64 (n / 2 ^ 24 % 2 ^ a.rb : Nat), .int .i64 (n % 2 ^ 24 : Nat)] := fun H hl => (hobE.le hl).rules.2.2
    have hrow := hrowG h16 (Heap.le.refl h16)
    try simp (disch := first | omega | (simp only [PL]; omega)) only [PS, P1, P2, P3, P4, P5, P6, P7, P8, PA, PB, PC, Nat.reduceAdd, Nat.reduceSub, Nat.reduceMul, Nat.reduceLeDiff, Nat.reduceEqDiff, Nat.succ_ne_self, reduceCtorEq, Int.reduceToNat, Int.cast_ofNat_Int, Int.reduceEq, Int.reduceNe, Int.reduceLT, Int.reduceLE, hrow]
    refine i_call H108 ⟨tagAt n a, rfl, fun h17 hle17 => ?_⟩
    have hrow2 := hrowG h17 hle17
    dsimp only at hK
    by_cases hbad : (tagAt n a).bad
    · rw [fault_bad hbad]
      simp only [if_pos hbad, Option.getD, Option.isSome, Tg.zero, aggT, Bool.false_eq_true, if_false, errV_succ] at hK ⊢
      try simp (disch := first | omega | (simp only [PL]; omega)) only [PS, P1, P2, P3, P4, P5, P6, P7, P8, PA, PB, PC, Nat.reduceAdd, Nat.reduceSub, Nat.reduceMul, Nat.reduceLeDiff, Nat.reduceEqDiff, Nat.succ_ne_self, reduceCtorEq, Int.reduceToNat, Int.cast_ofNat_Int, Int.reduceEq, Int.reduceNe, Int.reduceLT, Int.reduceLE]
      exact hK h17 (hle16.trans hle17)
    · rw [fault_ok hbad]
      simp only [if_neg hbad] at hK
      simp only [Option.getD, Option.isSome, aggT, tagAt, if_true, errV_zero] at hK ⊢
      try simp (disch := first | omega | (simp only [PL]; omega)) only [PS, P1, P2, P3, P4, P5, P6, P7, P8, PA, PB, PC, Nat.reduceAdd, Nat.reduceSub, Nat.reduceMul, Nat.reduceLeDiff, Nat.reduceEqDiff, Nat.succ_ne_self, reduceCtorEq, Int.reduceToNat, Int.cast_ofNat_Int, Int.reduceEq, Int.reduceNe, Int.reduceLT, Int.reduceLE, hrow2]
      exact hK h17 (hle16.trans hle17)
end Go.Cw
namespace Go.Cw
open Go

theorem kindOf_some (b : List UInt8) : kindOf b = ((tagOf b).getD Tg.zero).kind := by unfold kindOf; cases tagOf b <;> rfl
def S83 : Spec := fun args h K => ∃ b, args = [.string (str b)] ∧ ∀ h', Heap.le h h' → K (.int .i64 (kindOf b)) h'
theorem F83_ok {N : Num} {Γ : Ctx} [GoodC Γ] (H110 : Sat S110 (Γ 110)) : Sat S83 (SF N Γ F83) := by
  rintro _ h K ⟨b, rfl, hK⟩
  refine i_fun rfl ?_
  simp only [F83, env0, List.map, List.length, List.replicate, List.cons_append, List.nil_append, Nat.reduceSub, Nat.reduceAdd]
  try simp (disch := first | omega | (simp only [PL]; omega)) only [PS, P1, P2, P3, P4, P5, P6, P7, P8, PA, PB, PC, Nat.reduceAdd, Nat.reduceSub, Nat.reduceMul, Nat.reduceLeDiff, Nat.reduceEqDiff, Nat.succ_ne_self, reduceCtorEq, Int.reduceToNat, Int.cast_ofNat_Int, Int.reduceEq, Int.reduceNe, Int.reduceLT, Int.reduceLE]
  refine i_call H110 ⟨b, rfl, fun h1 hle1 => ?_⟩
  have := hK h1 hle1
  rw [kindOf_some] at this
  unfold tgV aggT
  cases ht : tagOf b with
  | none =>
    rw [ht] at this
    simp only [Option.getD, Option.isSome, Tg.zero] at this ⊢
    try simp (disch := first | omega | (simp only [PL]; omega)) only [PS, P1, P2, P3, P4, P5, P6, P7, P8, PA, PB, PC, Nat.reduceAdd, Nat.reduceSub, Nat.reduceMul, Nat.reduceLeDiff, Nat.reduceEqDiff, Nat.succ_ne_self, reduceCtorEq, Int.reduceToNat, Int.cast_ofNat_Int, Int.reduceEq, Int.reduceNe, Int.reduceLT, Int.reduceLE]
    exact this
  | some t =>
    rw [ht] at this
    simp only [Option.getD, Option.isSome] at this ⊢
    try simp (disch := first | omega | (simp only [PL]; omega)) only [PS, P1, P2, P3, P4, P5, P6, P7, P8, PA, PB, PC, Nat.reduceAdd, Nat.reduceSub, Nat.reduceMul, Nat.reduceLeDiff, Nat.reduceEqDiff, Nat.succ_ne_self, reduceCtorEq, Int.reduceToNat, Int.cast_ofNat_Int, Int.reduceEq, Int.reduceNe, Int.reduceLT, Int.reduceLE]
    exact this
def S66 : Spec := S83
theorem F66_ok {N : Num} {Γ : Ctx} [GoodC Γ] (H81 : Sat (S81 N) (Γ 81)) : Sat S66 (SF N Γ F66) := by
  rintro _ h K ⟨b, rfl, hK⟩
  refine i_fun rfl ?_
  simp only [F66, env0, List.map, List.length, List.replicate, List.cons_append, List.nil_append, Nat.reduceSub, Nat.reduceAdd]
  try simp (disch := first | omega | (simp only [PL]; omega)) only [PS, P1, P2, P3, P4, P5, P6, P7, P8, PA, PB, PC, Nat.reduceAdd, Nat.reduceSub, Nat.reduceMul, Nat.reduceLeDiff, Nat.reduceEqDiff, Nat.succ_ne_self, reduceCtorEq, Int.reduceToNat, Int.cast_ofNat_Int, Int.reduceEq, Int.reduceNe, Int.reduceLT, Int.reduceLE]
  refine i_call H81 ⟨b, rfl, fun h1 hle1 => ?_⟩
  have := hK h1 hle1
  rw [kindOf_some] at this
  unfold tgV aggT
  cases ht : tagOf b with
  | none =>
    rw [ht] at this
    simp only [Option.getD, Option.isSome, Tg.zero, Bool.false_eq_true, if_false, errV_succ] at this ⊢
    try simp (disch := first | omega | (simp only [PL]; omega)) only [PS, P1, P2, P3, P4, P5, P6, P7, P8, PA, PB, PC, Nat.reduceAdd, Nat.reduceSub, Nat.reduceMul, Nat.reduceLeDiff, Nat.reduceEqDiff, Nat.succ_ne_self, reduceCtorEq, Int.reduceToNat, Int.cast_ofNat_Int, Int.reduceEq, Int.reduceNe, Int.reduceLT, Int.reduceLE]
    exact this
  | some t =>
    rw [ht] at this
    simp only [Option.getD, Option.isSome, if_true, errV_zero] at this ⊢
    try simp (disch := first | omega | (simp only [PL]; omega)) only [PS, P1, P2, P3, P4, P5, P6, P7, P8, PA, PB, PC, Nat.reduceAdd, Nat.reduceSub, Nat.reduceMul, Nat.reduceLeDiff, Nat.reduceEqDiff, Nat.succ_ne_self, reduceCtorEq, Int.reduceToNat, Int.cast_ofNat_Int, Int.reduceEq, Int.reduceNe, Int.reduceLT, Int.reduceLE]
    exact this

def encBl (b : Bool) : List Value := [.bool b]
def bitsN (n k : Nat) : List Bool := (List.range k).map fun i => decide (n / 2 ^ (k - 1 - i) % 2 = 1)
theorem bitsN_len (n k : Nat) : (bitsN n k).length = k := by simp [bitsN]
theorem bitsN_get (n k i : Nat) (hi : i < k) : (bitsN n k).getD i false = decide (n / 2 ^ (k - 1 - i) % 2 = 1) := by
  simp [bitsN, List.getD, hi]
theorem and_one_i64 (x : Nat) (hx : x < 2 ^ 63) : binV .and (.int .i64 (x : Int)) (.int .i64 1) = some (.int .i64 ((x % 2 : Nat) : Int)) := by
  have hb : (BitVec.ofInt IntKind.i64.bits (x : Int) &&& BitVec.ofInt IntKind.i64.bits (1 : Int)).toNat = x % 2 := by
    rw [BitVec.toNat_and, bits_nat IntKind.i64.bits x (by simp [IntKind.bits]; omega), show (1 : Int) = ((1 : Nat) : Int) from rfl, bits_nat IntKind.i64.bits 1 (by simp [IntKind.bits]), Nat.and_one_is_mod]
  simp only [binV, intV, if_true]
  rw [hb, w64 (by omega) (by omega)]
def S80 : Spec := fun args h K => ∃ h0 v l, ∃ n many : Nat, args = [v, .int .i64 n, .int .i64 many] ∧ OwnS encBl 1 h0 h v l ∧ n < 2 ^ 63 ∧ many ≤ 60 ∧ l.length ≤ 1000 ∧
  ∀ v' h', OwnS encBl 1 h0 h' v' (l ++ bitsN n many) → K v' h'
theorem F80_ok {N : Num} {Γ : Ctx} [GoodC Γ] : Sat S80 (SF N Γ F80) := by
  rintro _ h K ⟨h0, v, l, n, many, rfl, hv, hn, hm, hl, hK⟩
  refine i_fun rfl ?_
  simp only [F80, env0, List.map, List.length, List.replicate, List.cons_append, List.nil_append, Nat.reduceSub, Nat.reduceAdd]
  try simp (disch := first | omega | (simp only [PL]; omega)) only [PS, P1, P2, P3, P4, P5, P6, P7, P8, PA, PB, PC, Nat.reduceAdd, Nat.reduceSub, Nat.reduceMul, Nat.reduceLeDiff, Nat.reduceEqDiff, Nat.succ_ne_self, reduceCtorEq, Int.reduceToNat, Int.cast_ofNat_Int, Int.reduceEq, Int.reduceNe, Int.reduceLT, Int.reduceLE]
  refine i_loop (fun s : Nat × Value => [some s.2, some (.int .i64 n), some (.int .i64 many), none, some (.int .i64 ((many : Int) - 1 - s.1)), none, none, none, none])
    (fun s h1 => s.1 ≤ many ∧ OwnS encBl 1 h0 h1 s.2 (l ++ (bitsN n many).take s.1)) (fun s => many - s.1) (0, v) (by try simp only [Pe, and_true, true_and, and_self]; simp; rw [w64 (by omega) (by omega)]) ⟨by dsimp only; omega, by simpa using hv⟩ ?_
  rintro ⟨j, v1⟩ h1 ⟨hj, ho⟩
  dsimp only at hj ho ⊢
  try simp (disch := first | omega | (simp only [PL]; omega)) only [PS, P1, P2, P3, P4, P5, P6, P7, P8, PA, PB, PC, Nat.reduceAdd, Nat.reduceSub, Nat.reduceMul, Nat.reduceLeDiff, Nat.reduceEqDiff, Nat.succ_ne_self, reduceCtorEq, Int.reduceToNat, Int.cast_ofNat_Int, Int.reduceEq, Int.reduceNe, Int.reduceLT, Int.reduceLE]
  refine i_cond (fun c => ?_) (fun c => ?_)
  · have hj2 : j < many := by omega
    have hi : ((many : Int) - 1 - j) = ((many - 1 - j : Nat) : Int) := by omega
    have hsr := shr_nat .i64 .i64 n (many - 1 - j) (by simp [IntKind.bits]; omega)
    have han := and_one_i64 (n / 2 ^ (many - 1 - j)) (Nat.lt_of_le_of_lt (Nat.div_le_self _ _) hn)
    rw [← hi] at hsr
    try simp (disch := first | omega | (simp only [PL]; omega)) only [PS, P1, P2, P3, P4, P5, P6, P7, P8, PA, PB, PC, Nat.reduceAdd, Nat.reduceSub, Nat.reduceMul, Nat.reduceLeDiff, Nat.reduceEqDiff, Nat.succ_ne_self, reduceCtorEq, Int.reduceToNat, Int.cast_ofNat_Int, Int.reduceEq, Int.reduceNe, Int.reduceLT, Int.reduceLE, hsr, han]
    refine i_bslB encBl 1 (fun _ => rfl) [decide (n / 2 ^ (many - 1 - j) % 2 = 1)] ?_ rfl (by simp [maxLen]) fun x1 b1 h2 hle2 hb1 hx1 hS1 => ?_
    · simp only [encBl, List.flatMap_cons, List.flatMap_nil, List.append_nil]
      have : (((n / 2 ^ (many - 1 - j) % 2 : Nat) : Int) = 1) = (n / 2 ^ (many - 1 - j) % 2 = 1) := by rw [eq_iff_iff]; omega
      simp only [this]
    have O2 := hS1.one
    try simp (disch := first | omega | (simp only [PL]; omega)) only [PS, P1, P2, P3, P4, P5, P6, P7, P8, PA, PB, PC, Nat.reduceAdd, Nat.reduceSub, Nat.reduceMul, Nat.reduceLeDiff, Nat.reduceEqDiff, Nat.succ_ne_self, reduceCtorEq, Int.reduceToNat, Int.cast_ofNat_Int, Int.reduceEq, Int.reduceNe, Int.reduceLT, Int.reduceLE, O2.1, O2.2]
    refine i_app1 (enc := encBl) (fun _ => rfl) (l' := [decide (n / 2 ^ (many - 1 - j) % 2 = 1)]) (by simp [encBl, one]) (ho.le hle2) (SlB.sl (enc := encBl) (fun _ => rfl) (hS1.le (fr_le _ _))) (by simp [bitsN_len]; omega) fun v2 h3 ho3 => ?_
    have hw : IntKind.i64.wrap ((many : Int) - 1 - j - 1) = (many : Int) - 1 - ((j + 1 : Nat) : Int) := by rw [w64 (by omega) (by omega)]; omega
    try simp (disch := first | omega | (simp only [PL]; omega)) only [PS, P1, P2, P3, P4, P5, P6, P7, P8, PA, PB, PC, Nat.reduceAdd, Nat.reduceSub, Nat.reduceMul, Nat.reduceLeDiff, Nat.reduceEqDiff, Nat.succ_ne_self, reduceCtorEq, Int.reduceToNat, Int.cast_ofNat_Int, Int.reduceEq, Int.reduceNe, Int.reduceLT, Int.reduceLE, hw]
    refine k_loop (j + 1, v2) (by dsimp only; omega) (by dsimp only; try simp only [Pe, and_true, true_and, and_self]) ⟨by dsimp only; omega, ?_⟩
    rw [take_succ_d false (by rw [bitsN_len]; exact hj2), bitsN_get _ _ _ hj2, ← List.append_assoc]
    exact ho3
  · have : j = many := by omega
    subst this
    rw [List.take_of_length_le (by rw [bitsN_len]; omega)] at ho
    try simp (disch := first | omega | (simp only [PL]; omega)) only [PS, P1, P2, P3, P4, P5, P6, P7, P8, PA, PB, PC, Nat.reduceAdd, Nat.reduceSub, Nat.reduceMul, Nat.reduceLeDiff, Nat.reduceEqDiff, Nat.succ_ne_self, reduceCtorEq, Int.reduceToNat, Int.cast_ofNat_Int, Int.reduceEq, Int.reduceNe, Int.reduceLT, Int.reduceLE]
    exact hK _ _ ho
end Go.Cw
namespace Go.Cw
open Go

def valB (l : List Bool) : Nat := l.foldl (fun a x => 2 * a + x.toNat) 0
theorem valB_snoc (l : List Bool) (x : Bool) : valB (l ++ [x]) = 2 * valB l + x.toNat := by simp [valB]
theorem valB_lt (l : List Bool) : valB l < 2 ^ l.length := by
  induction l using snoc_ind with
  | h0 => simp [valB]
  | hs l x ih => rw [valB_snoc, List.length_append, List.length_singleton, Nat.pow_succ]; have := Bool.toNat_lt x; omega
/-- the bits of a tag -/
def tagBits (t : Tg) (a : Pa) : List Bool := bitsN (47 + t.kind).toNat 8 ++ bitsN t.filter.toNat 3 ++ bitsN t.part.toNat 3 ++ bitsN t.company.toNat a.cb ++ bitsN t.ref.toNat a.rb ++ bitsN t.serial.toNat 24
theorem tagBits_len (t : Tg) {a : Pa} (h : partsOf t.part = some a) : (tagBits t a).length = 64 := by
  have := partsOf_some h
  simp only [tagBits, List.length_append, bitsN_len]; omega
def packB (B : List Bool) : List UInt8 := (List.range 8).map fun i => UInt8.ofNat (valB ((B.drop (8 * i)).take 8))
theorem packB_len (B : List Bool) : (packB B).length = 8 := by simp [packB]
theorem packB_get (B : List Bool) {i : Nat} (hi : i < 8) : (packB B).getD i 0 = UInt8.ofNat (valB ((B.drop (8 * i)).take 8)) := by simp [packB, List.getD, hi]
def bytesOf (t : Tg) : List UInt8 := packB (tagBits t ((partsOf t.part).getD default))

def S65 : Spec := fun args h K => ∃ t a, args = [aggT t] ∧ partsOf t.part = some a ∧ 0 ≤ 47 + t.kind ∧ t.kind < 2 ^ 62 ∧ 0 ≤ t.filter ∧ t.filter < 2 ^ 62 ∧ 0 ≤ t.company ∧ t.company < 2 ^ 62 ∧ 0 ≤ t.ref ∧ t.ref < 2 ^ 62 ∧ 0 ≤ t.serial ∧ t.serial < 2 ^ 62 ∧ ∀ h', Heap.le h h' → K (.string (str (bytesOf t))) h'
theorem F65_ok {N : Num} {Γ : Ctx} [GoodC Γ] (H79 : Sat S79 (Γ 79)) (H80 : Sat S80 (Γ 80)) : Sat S65 (SF N Γ F65) := by
  rintro _ h K ⟨t, a, rfl, hp, k1, k2, f1, f2, c1, c2, r1, r2, s1, s2, hK⟩
  have hpa := partsOf_some hp
  have hp6 : 0 ≤ t.part ∧ t.part < 6 := by
    refine Classical.byContradiction fun hc => ?_
    rw [partsOf_none.2 (by omega)] at hp; cases hp
  unfold bytesOf at hK
  rw [hp] at hK
  have hBl := tagBits_len t hp
  simp only [Option.getD] at hK
  refine i_fun rfl ?_
  simp only [F65, env0, List.map, List.length, List.replicate, List.cons_append, List.nil_append, Nat.reduceSub, Nat.reduceAdd, aggT]
  try simp (disch := first | omega | (simp only [PL]; omega)) only [PS, P1, P2, P3, P4, P5, P6, P7, P8, PA, PB, PC, Nat.reduceAdd, Nat.reduceSub, Nat.reduceMul, Nat.reduceLeDiff, Nat.reduceEqDiff, Nat.succ_ne_self, reduceCtorEq, Int.reduceToNat, Int.cast_ofNat_Int, Int.reduceEq, Int.reduceNe, Int.reduceLT, Int.reduceLE]
  refine i_call H79 ⟨t.part, rfl, ?_⟩
  simp only [paV, hp, Option.elim, Pa.enc]
  try simp (disch := first | omega | (simp only [PL]; omega)) only [PS, P1, P2, P3, P4, P5, P6, P7, P8, PA, PB, PC, Nat.reduceAdd, Nat.reduceSub, Nat.reduceMul, Nat.reduceLeDiff, Nat.reduceEqDiff, Nat.succ_ne_self, reduceCtorEq, Int.reduceToNat, Int.cast_ofNat_Int, Int.reduceEq, Int.reduceNe, Int.reduceLT, Int.reduceLE]
  refine i_newO fun b3 h1 hle1 hb3 ho3 => ?_
  try simp (disch := first | omega | (simp only [PL]; omega)) only [PS, P1, P2, P3, P4, P5, P6, P7, P8, PA, PB, PC, Nat.reduceAdd, Nat.reduceSub, Nat.reduceMul, Nat.reduceLeDiff, Nat.reduceEqDiff, Nat.succ_ne_self, reduceCtorEq, Int.reduceToNat, Int.cast_ofNat_Int, Int.reduceEq, Int.reduceNe, Int.reduceLT, Int.reduceLE]
  refine i_st (ho3.le (fr_le h h1)) 0 4 rfl rfl (by omega) (Nat.le_refl 4) fun o hob _ => ?_
  have hob2 : objAt (h1.set b3 o) ⟨b3, 0, none⟩ [.int .i64 a.cb, .int .i64 a.cd, .int .i64 a.rb, .int .i64 a.rd] := hob h1 rfl
  have hle2 : Heap.le h (h1.set b3 o) := but.le (b := b3) hle1 hb3 fun x hx => Heap.set_ne hx
  generalize h1.set b3 o = h2 at *
  have B0 := fun H (hl : Heap.le h2 H) => ((hob2.le hl).rules.2.1 (by simp) : H.cell ⟨b3, 0, none⟩ = some (.int .i64 a.cb))
  have B2 := fun H (hl : Heap.le h2 H) => ((hob2.le hl).rules.1 2 (by simp) : H.cell ((⟨b3, 0, none⟩ : Addr).add 2) = some (.int .i64 a.rb))
  have haa0 : ∀ h (k : IntKind), o2V h (.aadr 4 1) (.v (.pointer (some ⟨b3, 0, none⟩))) (.v (.int k 0)) = some (.v (.pointer (some ⟨b3, 0, none⟩))) := fun h k => rfl
  have haa2 : ∀ h (k : IntKind), o2V h (.aadr 4 1) (.v (.pointer (some ⟨b3, 0, none⟩))) (.v (.int k 2)) = some (.v (.pointer (some ((⟨b3, 0, none⟩ : Addr).add 2)))) := fun h k => rfl
  obtain ⟨kn, hkn⟩ : ∃ n : Nat, 47 + t.kind = n := ⟨(47 + t.kind).toNat, by omega⟩
  obtain ⟨fn, hfn⟩ : ∃ n : Nat, t.filter = n := ⟨t.filter.toNat, by omega⟩
  obtain ⟨pn, hpn⟩ : ∃ n : Nat, t.part = n := ⟨t.part.toNat, by omega⟩
  obtain ⟨cn, hcn⟩ : ∃ n : Nat, t.company = n := ⟨t.company.toNat, by omega⟩
  obtain ⟨rn, hrn⟩ : ∃ n : Nat, t.ref = n := ⟨t.ref.toNat, by omega⟩
  obtain ⟨sn, hsn⟩ : ∃ n : Nat, t.serial = n := ⟨t.serial.toNat, by omega⟩
  have hB : tagBits t a = bitsN kn 8 ++ bitsN fn 3 ++ bitsN pn 3 ++ bitsN cn a.cb ++ bitsN rn a.rb ++ bitsN sn 24 := by
    simp only [tagBits, hkn, hfn, hpn, hcn, hrn, hsn, Int.toNat_natCast]
  have hkw : IntKind.i64.wrap (47 + t.kind) = (kn : Int) := by rw [w64 (by omega) (by omega), hkn]
  generalize hBg : tagBits t a = B at *
  rw [hfn, hpn, hcn, hrn, hsn]
  try simp (disch := first | omega | (simp only [PL]; omega)) only [PS, P1, P2, P3, P4, P5, P6, P7, P8, PA, PB, PC, Nat.reduceAdd, Nat.reduceSub, Nat.reduceMul, Nat.reduceLeDiff, Nat.reduceEqDiff, Nat.succ_ne_self, reduceCtorEq, Int.reduceToNat, Int.cast_ofNat_Int, Int.reduceEq, Int.reduceNe, Int.reduceLT, Int.reduceLE, hkw]
  refine i_call H80 ⟨h2, .slice none 0 0, [], kn, 8, rfl, OwnS.nil (Heap.le.refl h2), by omega, by omega, by simp, fun v4 h4 ho4 => ?_⟩
  rw [List.nil_append] at ho4
  try simp (disch := first | omega | (simp only [PL]; omega)) only [PS, P1, P2, P3, P4, P5, P6, P7, P8, PA, PB, PC, Nat.reduceAdd, Nat.reduceSub, Nat.reduceMul, Nat.reduceLeDiff, Nat.reduceEqDiff, Nat.succ_ne_self, reduceCtorEq, Int.reduceToNat, Int.cast_ofNat_Int, Int.reduceEq, Int.reduceNe, Int.reduceLT, Int.reduceLE]
  refine i_call H80 ⟨h2, v4, _, fn, 3, rfl, ho4, by omega, by omega, by simp [bitsN_len], fun v5 h5 ho5 => ?_⟩
  try simp (disch := first | omega | (simp only [PL]; omega)) only [PS, P1, P2, P3, P4, P5, P6, P7, P8, PA, PB, PC, Nat.reduceAdd, Nat.reduceSub, Nat.reduceMul, Nat.reduceLeDiff, Nat.reduceEqDiff, Nat.succ_ne_self, reduceCtorEq, Int.reduceToNat, Int.cast_ofNat_Int, Int.reduceEq, Int.reduceNe, Int.reduceLT, Int.reduceLE]
  refine i_call H80 ⟨h2, v5, _, pn, 3, rfl, ho5, by omega, by omega, by simp [bitsN_len], fun v6 h6 ho6 => ?_⟩
  have B06 := B0 h6 ho6.1
  try simp (disch := first | omega | (simp only [PL]; omega)) only [PS, P1, P2, P3, P4, P5, P6, P7, P8, PA, PB, PC, Nat.reduceAdd, Nat.reduceSub, Nat.reduceMul, Nat.reduceLeDiff, Nat.reduceEqDiff, Nat.succ_ne_self, reduceCtorEq, Int.reduceToNat, Int.cast_ofNat_Int, Int.reduceEq, Int.reduceNe, Int.reduceLT, Int.reduceLE, haa0, B06]
  refine i_call H80 ⟨h2, v6, _, cn, a.cb, rfl, ho6, by omega, by omega, by simp [bitsN_len], fun v7 h7 ho7 => ?_⟩
  have B27 := B2 h7 ho7.1
  try simp (disch := first | omega | (simp only [PL]; omega)) only [PS, P1, P2, P3, P4, P5, P6, P7, P8, PA, PB, PC, Nat.reduceAdd, Nat.reduceSub, Nat.reduceMul, Nat.reduceLeDiff, Nat.reduceEqDiff, Nat.succ_ne_self, reduceCtorEq, Int.reduceToNat, Int.cast_ofNat_Int, Int.reduceEq, Int.reduceNe, Int.reduceLT, Int.reduceLE, haa2, B27]
  refine i_call H80 ⟨h2, v7, _, rn, a.rb, rfl, ho7, by omega, by omega, by simp [bitsN_len]; omega, fun v8 h8 ho8 => ?_⟩
  try simp (disch := first | omega | (simp only [PL]; omega)) only [PS, P1, P2, P3, P4, P5, P6, P7, P8, PA, PB, PC, Nat.reduceAdd, Nat.reduceSub, Nat.reduceMul, Nat.reduceLeDiff, Nat.reduceEqDiff, Nat.succ_ne_self, reduceCtorEq, Int.reduceToNat, Int.cast_ofNat_Int, Int.reduceEq, Int.reduceNe, Int.reduceLT, Int.reduceLE]
  refine i_call H80 ⟨h2, v8, _, sn, 24, rfl, ho8, by omega, by omega, by simp [bitsN_len]; omega, fun v9 h9 ho9 => ?_⟩
  rw [← hB] at ho9
  have hS9 := ho9.sl (enc := encBl) (fun _ => rfl)
  have hle9 := hle2.trans ho9.1
  clear ho4 ho5 ho6 ho7 ho8 ho9 B06 B27 hB
  try simp (disch := first | omega | (simp only [PL]; omega)) only [PS, P1, P2, P3, P4, P5, P6, P7, P8, PA, PB, PC, Nat.reduceAdd, Nat.reduceSub, Nat.reduceMul, Nat.reduceLeDiff, Nat.reduceEqDiff, Nat.succ_ne_self, reduceCtorEq, Int.reduceToNat, Int.cast_ofNat_Int, Int.reduceEq, Int.reduceNe, Int.reduceLT, Int.reduceLE]
  refine i_loop (fun s : Nat × Value => [some (.agg #[.int .i64 t.kind, .int .i64 fn, .int .i64 pn, .int .i64 cn, .int .i64 rn, .int .i64 sn]), none, some (.string (str [])), some (.pointer (some ⟨b3, 0, none⟩)), some v9, some s.2, some (.int .i64 s.1), none, none, none, none, none, none, none, none, none, none, none, none, none, none, none, none, none])
    (fun s H => s.1 ≤ 8 ∧ OwnS encB 1 h9 H s.2 ((packB B).take s.1)) (fun s => 8 - s.1) (0, .slice none 0 0) (by try simp only [Pe, and_true, true_and, and_self]; rfl) ⟨by dsimp only; omega, OwnS.nil (Heap.le.refl h9)⟩ ?_
  rintro ⟨i, v⟩ H ⟨hi, ho⟩
  dsimp only at hi ho ⊢
  have R9 := (hS9.le ho.1).rules1 (fun b => .bool b) (fun _ => rfl) false
  rw [hBl] at R9
  try simp (disch := first | omega | (simp only [PL]; omega)) only [PS, P1, P2, P3, P4, P5, P6, P7, P8, PA, PB, PC, Nat.reduceAdd, Nat.reduceSub, Nat.reduceMul, Nat.reduceLeDiff, Nat.reduceEqDiff, Nat.succ_ne_self, reduceCtorEq, Int.reduceToNat, Int.cast_ofNat_Int, Int.reduceEq, Int.reduceNe, Int.reduceLT, Int.reduceLE]
  refine i_cond (fun c => ?_) (fun c => ?_)
  rotate_left
  · have : i = 8 := by omega
    subst this
    rw [List.take_of_length_le (by rw [packB_len]; omega)] at ho
    try simp (disch := first | omega | (simp only [PL]; omega)) only [PS, P1, P2, P3, P4, P5, P6, P7, P8, PA, PB, PC, Nat.reduceAdd, Nat.reduceSub, Nat.reduceMul, Nat.reduceLeDiff, Nat.reduceEqDiff, Nat.succ_ne_self, reduceCtorEq, Int.reduceToNat, Int.cast_ofNat_Int, Int.reduceEq, Int.reduceNe, Int.reduceLT, Int.reduceLE, (ho.sl encB_len).b2s]
    exact hK H (hle9.trans ho.1)
  have hi2 : i < 8 := by omega
  try simp (disch := first | omega | (simp only [PL]; omega)) only [PS, P1, P2, P3, P4, P5, P6, P7, P8, PA, PB, PC, Nat.reduceAdd, Nat.reduceSub, Nat.reduceMul, Nat.reduceLeDiff, Nat.reduceEqDiff, Nat.succ_ne_self, reduceCtorEq, Int.reduceToNat, Int.cast_ofNat_Int, Int.reduceEq, Int.reduceNe, Int.reduceLT, Int.reduceLE]
  refine i_loop (fun k : Nat => [some (.agg #[.int .i64 t.kind, .int .i64 fn, .int .i64 pn, .int .i64 cn, .int .i64 rn, .int .i64 sn]), none, some (.string (str [])), some (.pointer (some ⟨b3, 0, none⟩)), some v9, some v, some (.int .i64 i), some (.int .i64 (valB ((B.drop (8 * i)).take k) : Nat)), some (.int .i64 k), none, none, none, none, none, none, none, none, none, none, none, none, none, none, none])
    (fun k H2 => H2 = H ∧ k ≤ 8) (fun k => 8 - k) 0 (by try simp only [Pe, and_true, true_and, and_self]; exact ⟨rfl, rfl⟩) ⟨rfl, by omega⟩ ?_
  rintro k H2 ⟨rfl, hk⟩
  have hvl := valB_lt ((B.drop (8 * i)).take k)
  have hvl2 : valB ((B.drop (8 * i)).take k) < 2 ^ 8 := Nat.lt_of_lt_of_le hvl (Nat.pow_le_pow_right (by omega) (by rw [List.length_take]; omega))
  try simp (disch := first | omega | (simp only [PL]; omega)) only [PS, P1, P2, P3, P4, P5, P6, P7, P8, PA, PB, PC, Nat.reduceAdd, Nat.reduceSub, Nat.reduceMul, Nat.reduceLeDiff, Nat.reduceEqDiff, Nat.succ_ne_self, reduceCtorEq, Int.reduceToNat, Int.cast_ofNat_Int, Int.reduceEq, Int.reduceNe, Int.reduceLT, Int.reduceLE]
  refine i_cond (fun c2 => ?_) (fun c2 => ?_)
  · have hk2 : k < 8 := by omega
    have hidx : IntKind.i64.wrap (IntKind.i64.wrap (8 * (i : Int)) + (k : Int)) = ((8 * i + k : Nat) : Int) := by rw [w64 (n := 8 * (i : Int)) (by omega) (by omega), w64 (by omega) (by omega)]; omega
    have hnx : valB ((B.drop (8 * i)).take (k + 1)) = 2 * valB ((B.drop (8 * i)).take k) + (B.getD (8 * i + k) false).toNat := by
      rw [take_succ_d false (by rw [List.length_drop]; omega), valB_snoc]
      simp [List.getD, List.getElem?_drop]
    have hw2 : IntKind.i64.wrap (2 * (valB ((B.drop (8 * i)).take k) : Int)) = ((2 * valB ((B.drop (8 * i)).take k) : Nat) : Int) := by rw [w64 (by omega) (by omega)]; omega
    try simp (disch := first | omega | (simp only [PL]; omega)) only [PS, P1, P2, P3, P4, P5, P6, P7, P8, PA, PB, PC, Nat.reduceAdd, Nat.reduceSub, Nat.reduceMul, Nat.reduceLeDiff, Nat.reduceEqDiff, Nat.succ_ne_self, reduceCtorEq, Int.reduceToNat, Int.cast_ofNat_Int, Int.reduceEq, Int.reduceNe, Int.reduceLT, Int.reduceLE, hidx, R9, hw2]
    cases hbit : B.getD (8 * i + k) false with
    | true =>
      rw [hbit] at hnx
      have hw3 : IntKind.i64.wrap (((2 * valB ((B.drop (8 * i)).take k) : Nat) : Int) + 1) = ((valB ((B.drop (8 * i)).take (k + 1)) : Nat) : Int) := by rw [hnx, w64 (by omega) (by omega)]; simp
      try simp (disch := first | omega | (simp only [PL]; omega)) only [PS, P1, P2, P3, P4, P5, P6, P7, P8, PA, PB, PC, Nat.reduceAdd, Nat.reduceSub, Nat.reduceMul, Nat.reduceLeDiff, Nat.reduceEqDiff, Nat.succ_ne_self, reduceCtorEq, Int.reduceToNat, Int.cast_ofNat_Int, Int.reduceEq, Int.reduceNe, Int.reduceLT, Int.reduceLE, hw3]
      exact k_loop (k + 1) (by omega) (by try simp only [Pe, and_true, true_and, and_self]) ⟨rfl, by omega⟩
    | false =>
      rw [hbit] at hnx
      have hw3 : ((2 * valB ((B.drop (8 * i)).take k) : Nat) : Int) = ((valB ((B.drop (8 * i)).take (k + 1)) : Nat) : Int) := by rw [hnx]; simp
      rw [hw3]
      try simp (disch := first | omega | (simp only [PL]; omega)) only [PS, P1, P2, P3, P4, P5, P6, P7, P8, PA, PB, PC, Nat.reduceAdd, Nat.reduceSub, Nat.reduceMul, Nat.reduceLeDiff, Nat.reduceEqDiff, Nat.succ_ne_self, reduceCtorEq, Int.reduceToNat, Int.cast_ofNat_Int, Int.reduceEq, Int.reduceNe, Int.reduceLT, Int.reduceLE]
      exact k_loop (k + 1) (by omega) (by try simp only [Pe, and_true, true_and, and_self]) ⟨rfl, by omega⟩
  · have : k = 8 := by omega
    subst this
    generalize hx : valB ((B.drop (8 * i)).take 8) = x at *
    have hb8 : (UInt8.ofNat x).toNat = x := by simp; omega
    have hcv : IntKind.u8.wrap ((x : Nat) : Int) = (((UInt8.ofNat x).toNat : Nat) : Int) := by rw [hb8, w8']; omega
    try simp (disch := first | omega | (simp only [PL]; omega)) only [PS, P1, P2, P3, P4, P5, P6, P7, P8, PA, PB, PC, Nat.reduceAdd, Nat.reduceSub, Nat.reduceMul, Nat.reduceLeDiff, Nat.reduceEqDiff, Nat.succ_ne_self, reduceCtorEq, Int.reduceToNat, Int.cast_ofNat_Int, Int.reduceEq, Int.reduceNe, Int.reduceLT, Int.reduceLE, hcv]
    refine i_bslB encB 1 encB_len [UInt8.ofNat x] rfl rfl (by simp [maxLen]) fun x1 b1 h2' hle2' hb1 hx1 hS1 => ?_
    have O2 := hS1.one
    try simp (disch := first | omega | (simp only [PL]; omega)) only [PS, P1, P2, P3, P4, P5, P6, P7, P8, PA, PB, PC, Nat.reduceAdd, Nat.reduceSub, Nat.reduceMul, Nat.reduceLeDiff, Nat.reduceEqDiff, Nat.succ_ne_self, reduceCtorEq, Int.reduceToNat, Int.cast_ofNat_Int, Int.reduceEq, Int.reduceNe, Int.reduceLT, Int.reduceLE, O2.1, O2.2]
    refine i_app1 (enc := encB) encB_len (l' := [UInt8.ofNat x]) (by simp [encB, one]) (ho.le hle2') (SlB.sl encB_len (hS1.le (fr_le _ _))) (by simp [packB_len]; omega) fun v2 h3 ho3 => ?_
    try simp (disch := first | omega | (simp only [PL]; omega)) only [PS, P1, P2, P3, P4, P5, P6, P7, P8, PA, PB, PC, Nat.reduceAdd, Nat.reduceSub, Nat.reduceMul, Nat.reduceLeDiff, Nat.reduceEqDiff, Nat.succ_ne_self, reduceCtorEq, Int.reduceToNat, Int.cast_ofNat_Int, Int.reduceEq, Int.reduceNe, Int.reduceLT, Int.reduceLE]
    refine k_loop (i + 1, v2) (by dsimp only; omega) (by dsimp only; try simp only [Pe, and_true, true_and, and_self]) ⟨by dsimp only; omega, ?_⟩
    dsimp only
    rw [take_succ_d 0 (by rw [packB_len]; omega), packB_get _ hi2, hx]
    exact ho3
end Go.Cw
/- Texts: digits, pieces; the text of a tag. -/
namespace Go.Cw
open Go

/-- the pieces of a text, cut at a byte -/
def pcs (c : UInt8) : List UInt8 → List (List UInt8)
  | [] => [[]]
  | x :: r => if x = c then [] :: pcs c r else match pcs c r with
    | [] => [[x]]
    | p :: q => (x :: p) :: q
theorem pcs_ne (c : UInt8) (s : List UInt8) : pcs c s ≠ [] := by
  cases s with
  | nil => simp [pcs]
  | cons x r => unfold pcs; split
                · simp
                · split <;> simp
theorem pcs_no {c : UInt8} : ∀ {s : List UInt8}, c ∉ s → pcs c s = [s] := by
  intro s
  induction s with
  | nil => intro _; rfl
  | cons x r ih =>
    intro h
    rw [List.mem_cons, not_or] at h
    unfold pcs
    rw [if_neg (Ne.symm h.1), ih h.2]
theorem pcs_cons {c : UInt8} : ∀ {a b : List UInt8}, c ∉ a → pcs c (a ++ c :: b) = a :: pcs c b := by
  intro a b
  induction a with
  | nil => intro _; simp [pcs]
  | cons x r ih =>
    intro h
    rw [List.mem_cons, not_or] at h
    rw [List.cons_append, pcs, if_neg (Ne.symm h.1), ih h.2]
/-- a text that is cut at its first byte of a kind -/
def cutH (c : UInt8) (s : List UInt8) : List UInt8 := s.takeWhile fun x => x ≠ c
def cutT (c : UInt8) (s : List UInt8) : List UInt8 := (s.dropWhile fun x => x ≠ c).drop 1
theorem cutH_cons {c : UInt8} : ∀ {a b : List UInt8}, c ∉ a → cutH c (a ++ c :: b) = a ∧ cutT c (a ++ c :: b) = b := by
  intro a b
  induction a with
  | nil => intro _; simp [cutH, cutT]
  | cons x r ih =>
    intro h
    rw [List.mem_cons, not_or] at h
    obtain ⟨h1, h2⟩ := ih h.2
    unfold cutH cutT at *
    have hx : (decide (x ≠ c)) = true := by simpa using Ne.symm h.1
    rw [List.cons_append, List.takeWhile_cons, if_pos hx, List.dropWhile_cons, if_pos hx]
    exact ⟨by rw [h1], h2⟩
/-- its pieces are what is ahead, and the pieces of what is behind -/
theorem pcs_cut {c : UInt8} : ∀ {s : List UInt8}, c ∈ s → pcs c s = cutH c s :: pcs c (cutT c s) := by
  intro s
  induction s with
  | nil => intro h; simp at h
  | cons x r ih =>
    intro h
    by_cases hx : x = c
    · subst hx; simp [pcs, cutH, cutT]
    · rw [pcs, if_neg hx]
      have h2 : c ∈ r := by
        rw [List.mem_cons] at h
        rcases h with e | h
        · exact absurd e.symm hx
        · exact h
      have hd : (decide (x ≠ c)) = true := by simpa using hx
      have e1 : cutH c (x :: r) = x :: cutH c r := by unfold cutH; rw [List.takeWhile_cons, if_pos hd]
      have e2 : cutT c (x :: r) = cutT c r := by unfold cutT; rw [List.dropWhile_cons, if_pos hd]
      rw [ih h2, e1, e2]

/-! digits -/
def digs (s : List UInt8) : Prop := ∀ b ∈ s, 48 ≤ b.toNat ∧ b.toNat ≤ 57
instance (s : List UInt8) : Decidable (digs s) := by unfold digs; infer_instance
def numv (s : List UInt8) : Nat := s.foldl (fun a b => 10 * a + (b.toNat - 48)) 0
theorem numv_snoc (s : List UInt8) (b : UInt8) : numv (s ++ [b]) = 10 * numv s + (b.toNat - 48) := by simp [numv]
theorem numv_dec (n : Nat) : numv (dec n) = n := by
  induction n using Nat.strongRecOn with
  | _ n ih =>
    by_cases h : n < 10
    · rw [dec_lt h]; simp [numv, dig_val]; omega
    · rw [dec_ge (by omega), numv_snoc, ih _ (by omega), dig_val]; omega
theorem foldl_zero : ∀ (k a : Nat), (List.replicate k (48 : UInt8)).foldl (fun a b => 10 * a + (b.toNat - 48)) 0 = 0 := by
  intro k _
  induction k with
  | zero => rfl
  | succ k ih => rw [List.replicate_succ, List.foldl_cons]; exact ih
/-- so many digits -/
def padD (n w : Nat) : List UInt8 := List.replicate (w - (dec n).length) 48 ++ dec n
theorem numv_pad (n w : Nat) : numv (padD n w) = n := by
  unfold padD numv
  rw [List.foldl_append, foldl_zero _ 0]
  exact numv_dec n
theorem digs_dec (n : Nat) : digs (dec n) := dec_digits n
theorem digs_pad (n w : Nat) : digs (padD n w) := by
  intro b hb
  unfold padD at hb
  rw [List.mem_append] at hb
  rcases hb with hb | hb
  · rw [List.mem_replicate] at hb; rw [hb.2]; decide
  · exact digs_dec n b hb
theorem padD_len {n w : Nat} (h : n < 10 ^ w) (hw : 0 < w) : (padD n w).length = w := by
  unfold padD
  have := dec_len w h hw
  rw [List.length_append, List.length_replicate]; omega
theorem padD_ne (n w : Nat) : padD n w ≠ [] := by
  unfold padD
  intro h
  exact dec_ne n (List.append_eq_nil_iff.1 h).2
theorem digs_not {s : List UInt8} (h : digs s) {c : UInt8} (hc : c.toNat < 48 ∨ 57 < c.toNat) : c ∉ s := by
  intro hm; have := h c hm; omega
theorem numv_lt {s : List UInt8} (h : digs s) : numv s < 10 ^ s.length := by
  induction s using snoc_ind with
  | h0 => simp [numv]
  | hs s x ih =>
    have h1 := ih (fun b hb => h b (by simp [hb]))
    have h2 := h x (by simp)
    rw [numv_snoc, List.length_append, List.length_singleton, Nat.pow_succ]; omega

/-! the text of a tag -/
def kname (k : Int) : List UInt8 := if k = 2 then [99, 97, 115, 101] else if k = 3 then [112, 97, 108, 108, 101, 116] else [105, 116, 101, 109]
def textA (t : Tg) (a : Pa) : List UInt8 := dec t.filter.toNat ++ 46 :: (padD t.company.toNat a.cd ++ 46 :: (padD t.ref.toNat a.rd ++ 46 :: dec t.serial.toNat))
def textW (t : Tg) (a : Pa) : List UInt8 := kname t.kind ++ 58 :: textA t a
def textOf (t : Tg) : List UInt8 := textW t ((partsOf t.part).getD ⟨0, 0, 0, 0⟩)
theorem kname_no (k : Int) : (58 : UInt8) ∉ kname k := by
  unfold kname
  split
  · decide
  · split <;> decide
theorem kname_inj {k k' : Int} (h1 : 1 ≤ k) (h2 : k ≤ 3) (h3 : 1 ≤ k') (h4 : k' ≤ 3) (h : kname k = kname k') : k = k' := by
  unfold kname at h
  repeat' split at h
  all_goals first | omega | (simp at h; done)
theorem textA_pcs (t : Tg) (a : Pa) : pcs 46 (textA t a) = [dec t.filter.toNat, padD t.company.toNat a.cd, padD t.ref.toNat a.rd, dec t.serial.toNat] := by
  have h : (46 : UInt8).toNat < 48 ∨ 57 < (46 : UInt8).toNat := .inl (by decide)
  unfold textA
  rw [pcs_cons (digs_not (digs_dec _) h), pcs_cons (digs_not (digs_pad _ _) h), pcs_cons (digs_not (digs_pad _ _) h), pcs_no (digs_not (digs_dec _) h)]
theorem textA_no (t : Tg) (a : Pa) : (58 : UInt8) ∉ textA t a := by
  have h : (58 : UInt8).toNat < 48 ∨ 57 < (58 : UInt8).toNat := .inr (by decide)
  unfold textA
  have h1 := digs_not (digs_dec t.filter.toNat) h
  have h2 := digs_not (digs_pad t.company.toNat a.cd) h
  have h3 := digs_not (digs_pad t.ref.toNat a.rd) h
  have h4 := digs_not (digs_dec t.serial.toNat) h
  have h5 : (58 : UInt8) ≠ 46 := by decide
  simp only [List.mem_append, List.mem_cons, not_or]
  exact ⟨h1, h5, h2, h5, h3, h5, h4⟩
theorem Tg.good {t : Tg} (h : ¬ t.bad) : ∃ a, partsOf t.part = some a ∧ 1 ≤ t.kind ∧ t.kind ≤ 3 ∧ 0 ≤ t.filter ∧ t.filter ≤ 7 ∧ 0 ≤ t.serial ∧ t.serial ≤ 16777215 ∧ 0 ≤ t.company ∧ t.company < (10 ^ a.cd : Nat) ∧ 0 ≤ t.ref ∧ t.ref < (10 ^ a.rd : Nat) := by
  unfold Tg.bad at h
  split at h
  · exact absurd trivial h
  · rename_i a ha
    exact ⟨a, ha, by omega⟩
theorem partsOf_cd {p : Int} {a : Pa} (h : partsOf p = some a) : p = 6 - (a.cd : Int) := by
  unfold partsOf at h
  repeat' split at h
  all_goals first | (cases h; done) | (cases h; simp; omega)
/-- what is read of a tag's text -/
theorem text_read {t : Tg} (h : ¬ t.bad) : ∃ a, partsOf t.part = some a ∧ cutH 58 (textOf t) = kname t.kind ∧ cutT 58 (textOf t) = textA t a ∧ pcs 58 (textOf t) = [kname t.kind, textA t a] ∧
    pcs 46 (textA t a) = [dec t.filter.toNat, padD t.company.toNat a.cd, padD t.ref.toNat a.rd, dec t.serial.toNat] ∧
    (dec t.filter.toNat).length ≤ 8 ∧ (padD t.company.toNat a.cd).length = a.cd ∧ (padD t.ref.toNat a.rd).length = a.rd ∧ (dec t.serial.toNat).length ≤ 8 ∧ t.part = 6 - (a.cd : Int) ∧ a.cd ≤ 6 ∧ a.rd ≤ 6 ∧
    (numv (dec t.filter.toNat) : Int) = t.filter ∧ (numv (padD t.company.toNat a.cd) : Int) = t.company ∧ (numv (padD t.ref.toNat a.rd) : Int) = t.ref ∧ (numv (dec t.serial.toNat) : Int) = t.serial ∧ 1 ≤ t.kind ∧ t.kind ≤ 3 := by
  obtain ⟨a, ha, k1, k2, f1, f2, s1, s2, c1, c2, r1, r2⟩ := Tg.good h
  have hp := partsOf_some ha
  have e : textOf t = kname t.kind ++ 58 :: textA t a := by unfold textOf; rw [ha]; rfl
  obtain ⟨q1, q2⟩ := cutH_cons (b := textA t a) (kname_no t.kind)
  refine ⟨a, ha, by rw [e]; exact q1, by rw [e]; exact q2, ?_, textA_pcs t a, dec_len 8 (by omega) (by omega), padD_len (by omega) (by omega), padD_len (by omega) (by omega), dec_len 8 (by omega) (by omega), partsOf_cd ha, hp.2.2.1, hp.2.2.2.2.1, ?_, ?_, ?_, ?_, k1, k2⟩
  · rw [e, pcs_cons (kname_no t.kind), pcs_no (textA_no t a)]
  · rw [numv_dec]; omega
  · rw [numv_pad]; omega
  · rw [numv_pad]; omega
  · rw [numv_dec]; omega
theorem textOf_inj {t u : Tg} (h1 : ¬ t.bad) (h2 : ¬ u.bad) (h : textOf t = textOf u) : t = u := by
  obtain ⟨a, ha, p1, p2, _, p3, _, p4, p5, _, p6, _, _, n1, n2, n3, n4, k1, k2⟩ := text_read h1
  obtain ⟨b, hb, q1, q2, _, q3, _, q4, q5, _, q6, _, _, m1, m2, m3, m4, l1, l2⟩ := text_read h2
  rw [h] at p1 p2
  have e1 := kname_inj k1 k2 l1 l2 (p1.symm.trans q1)
  have e2 : textA t a = textA u b := p2.symm.trans q2
  rw [e2, q3] at p3
  simp only [List.cons.injEq, and_true] at p3
  obtain ⟨x1, x2, x3, x4⟩ := p3
  rw [← x1, m1] at n1
  rw [← x2, m2] at n2
  rw [← x3, m3] at n3
  rw [← x4, m4] at n4
  have e3 : a.cd = b.cd := by rw [← p4, ← q4, x2]
  cases t; cases u
  simp only [Tg.mk.injEq]
  dsimp only at *
  exact ⟨e1, n1.symm, by omega, n2.symm, n3.symm, n4.symm⟩
end Go.Cw
namespace Go.Cw
open Go

def numOk (s : List UInt8) : Prop := s ≠ [] ∧ s.length ≤ 8 ∧ digs s
instance (s : List UInt8) : Decidable (numOk s) := by unfold numOk; infer_instance
def figOk (s : List UInt8) : Prop := s.length ≤ 9 ∧ digs s
instance (s : List UInt8) : Decidable (figOk s) := by unfold figOk; infer_instance
theorem u8sub {b : UInt8} (h1 : 48 ≤ b.toNat) : IntKind.u8.wrap ((b.toNat : Int) - 48) = ((b.toNat - 48 : Nat) : Int) := by
  have := b.toNat_lt
  rw [w8']; omega
theorem numv_take {s : List UInt8} {i : Nat} (hi : i < s.length) : numv (s.take (i + 1)) = 10 * numv (s.take i) + ((s.getD i 0).toNat - 48) := by
  rw [take_succ_d 0 hi, numv_snoc]
theorem digs_take {s : List UInt8} {i : Nat} (h : digs (s.take i)) (hi : i < s.length) (h1 : 48 ≤ (s.getD i 0).toNat) (h2 : (s.getD i 0).toNat ≤ 57) : digs (s.take (i + 1)) := by
  intro b hb
  rw [take_succ_d 0 hi, List.mem_append, List.mem_singleton] at hb
  rcases hb with hb | rfl
  · exact h b hb
  · exact ⟨h1, h2⟩
theorem digs_at {s : List UInt8} (h : digs s) {i : Nat} (hi : i < s.length) : 48 ≤ (s.getD i 0).toNat ∧ (s.getD i 0).toNat ≤ 57 := h _ (getD_mem 0 hi)
def S182 : Spec := fun args h K => ∃ s, args = [.string (str s)] ∧ s.length ≤ 10000000 ∧ K (.tuple #[.int .i64 ((if numOk s then numv s else 0 : Nat) : Int), .bool (decide (numOk s))]) h
theorem F182_ok {N : Num} {Γ : Ctx} [GoodC Γ] : Sat S182 (SF N Γ F182) := by
  rintro _ h K ⟨s, rfl, hsl, hK⟩
  refine i_fun rfl ?_
  simp only [F182, env0, List.map, List.length, List.replicate, List.cons_append, List.nil_append, Nat.reduceSub, Nat.reduceAdd]
  have hno : ¬ numOk s → K (.tuple #[.int .i64 0, .bool false]) h := fun hn => by
    have := hK
    rw [if_neg hn, decide_eq_false hn] at this; exact this
  try simp (disch := first | omega | (simp only [PL]; omega)) only [PS, P1, P2, P3, P4, P5, P6, P7, P8, PA, PB, PC, Nat.reduceAdd, Nat.reduceSub, Nat.reduceMul, Nat.reduceLeDiff, Nat.reduceEqDiff, Nat.succ_ne_self, reduceCtorEq, Int.reduceToNat, Int.cast_ofNat_Int, Int.reduceEq, Int.reduceNe, Int.reduceLT, Int.reduceLE]
  refine i_cond (fun c => ?_) (fun c => ?_)
  · try simp (disch := first | omega | (simp only [PL]; omega)) only [PS, P1, P2, P3, P4, P5, P6, P7, P8, PA, PB, PC, Nat.reduceAdd, Nat.reduceSub, Nat.reduceMul, Nat.reduceLeDiff, Nat.reduceEqDiff, Nat.succ_ne_self, reduceCtorEq, Int.reduceToNat, Int.cast_ofNat_Int, Int.reduceEq, Int.reduceNe, Int.reduceLT, Int.reduceLE]
    refine hno fun hn => ?_
    obtain ⟨h1, h2, h3⟩ := hn
    rcases c with c | c
    · exact h1 c
    · omega
  have hs1 : s ≠ [] := fun e => c (.inl e)
  have hs2 : s.length ≤ 8 := by omega
  try simp (disch := first | omega | (simp only [PL]; omega)) only [PS, P1, P2, P3, P4, P5, P6, P7, P8, PA, PB, PC, Nat.reduceAdd, Nat.reduceSub, Nat.reduceMul, Nat.reduceLeDiff, Nat.reduceEqDiff, Nat.succ_ne_self, reduceCtorEq, Int.reduceToNat, Int.cast_ofNat_Int, Int.reduceEq, Int.reduceNe, Int.reduceLT, Int.reduceLE]
  refine i_loop (fun i : Nat => [some (.string (str s)), none, none, some (.int .i64 (numv (s.take i) : Nat)), none, none, some (.int .i64 (s.length : Nat)), some (.int .i64 (i : Nat)), none, none]) (fun i H => H = h ∧ i ≤ s.length ∧ digs (s.take i)) (fun i => s.length - i) 0 (by try simp only [Pe, and_true, true_and, and_self]; exact ⟨rfl, rfl⟩) ⟨rfl, by omega, by intro b hb; simp at hb⟩ ?_
  rintro i H ⟨rfl, hi, hd⟩
  have hwi : IntKind.i64.wrap ((i : Int) + 1) = ((i + 1 : Nat) : Int) := by rw [w64 (by omega) (by omega)]; omega
  try simp (disch := first | omega | (simp only [PL]; omega)) only [PS, P1, P2, P3, P4, P5, P6, P7, P8, PA, PB, PC, Nat.reduceAdd, Nat.reduceSub, Nat.reduceMul, Nat.reduceLeDiff, Nat.reduceEqDiff, Nat.succ_ne_self, reduceCtorEq, Int.reduceToNat, Int.cast_ofNat_Int, Int.reduceEq, Int.reduceNe, Int.reduceLT, Int.reduceLE]
  refine i_cond (fun c2 => ?_) (fun c2 => ?_)
  rotate_left
  · have : i = s.length := by omega
    subst this
    rw [List.take_length] at hd ⊢
    have hok : numOk s := ⟨hs1, hs2, hd⟩
    rw [if_pos hok, decide_eq_true hok] at hK
    try simp (disch := first | omega | (simp only [PL]; omega)) only [PS, P1, P2, P3, P4, P5, P6, P7, P8, PA, PB, PC, Nat.reduceAdd, Nat.reduceSub, Nat.reduceMul, Nat.reduceLeDiff, Nat.reduceEqDiff, Nat.succ_ne_self, reduceCtorEq, Int.reduceToNat, Int.cast_ofNat_Int, Int.reduceEq, Int.reduceNe, Int.reduceLT, Int.reduceLE]
    exact hK
  have hi2 : i < s.length := by omega
  have hlt := numv_lt hd
  have hpw : 10 ^ (s.take i).length ≤ 10 ^ 8 := Nat.pow_le_pow_right (by omega) (by rw [List.length_take]; omega)
  have hb := (s.getD i 0).toNat_lt
  try simp (disch := first | omega | (simp only [PL]; omega)) only [PS, P1, P2, P3, P4, P5, P6, P7, P8, PA, PB, PC, Nat.reduceAdd, Nat.reduceSub, Nat.reduceMul, Nat.reduceLeDiff, Nat.reduceEqDiff, Nat.succ_ne_self, reduceCtorEq, Int.reduceToNat, Int.cast_ofNat_Int, Int.reduceEq, Int.reduceNe, Int.reduceLT, Int.reduceLE]
  refine i_cond (fun c3 => ?_) (fun c3 => ?_)
  · try simp (disch := first | omega | (simp only [PL]; omega)) only [PS, P1, P2, P3, P4, P5, P6, P7, P8, PA, PB, PC, Nat.reduceAdd, Nat.reduceSub, Nat.reduceMul, Nat.reduceLeDiff, Nat.reduceEqDiff, Nat.succ_ne_self, reduceCtorEq, Int.reduceToNat, Int.cast_ofNat_Int, Int.reduceEq, Int.reduceNe, Int.reduceLT, Int.reduceLE]
    refine hno fun hn => ?_
    have := digs_at hn.2.2 hi2
    omega
  have hb1 : 48 ≤ (s.getD i 0).toNat := by omega
  have hb2 : (s.getD i 0).toNat ≤ 57 := by omega
  have hws := u8sub hb1
  have hwc : IntKind.i64.wrap (((s.getD i 0).toNat - 48 : Nat) : Int) = (((s.getD i 0).toNat - 48 : Nat) : Int) := w64 (by omega) (by omega)
  have hwm : IntKind.i64.wrap (10 * ((numv (s.take i) : Nat) : Int)) = ((10 * numv (s.take i) : Nat) : Int) := by rw [w64 (by omega) (by omega)]; omega
  have hwa : IntKind.i64.wrap (((10 * numv (s.take i) : Nat) : Int) + (((s.getD i 0).toNat - 48 : Nat) : Int)) = ((numv (s.take (i + 1)) : Nat) : Int) := by rw [numv_take hi2, w64 (by omega) (by omega)]; omega
  try simp (disch := first | omega | (simp only [PL]; omega)) only [PS, P1, P2, P3, P4, P5, P6, P7, P8, PA, PB, PC, Nat.reduceAdd, Nat.reduceSub, Nat.reduceMul, Nat.reduceLeDiff, Nat.reduceEqDiff, Nat.succ_ne_self, reduceCtorEq, Int.reduceToNat, Int.cast_ofNat_Int, Int.reduceEq, Int.reduceNe, Int.reduceLT, Int.reduceLE, hws, hwc, hwm, hwa, hwi]
  exact k_loop (i + 1) (by omega) (by try simp only [Pe, and_true, true_and, and_self]) ⟨rfl, by omega, digs_take hd hi2 hb1 hb2⟩
def S184 : Spec := fun args h K => ∃ s, args = [.string (str s)] ∧ s.length ≤ 10000000 ∧ K (.tuple #[.int .i64 ((if figOk s then numv s else 0 : Nat) : Int), .bool (decide (figOk s ∧ s ≠ []))]) h
theorem F184_ok {N : Num} {Γ : Ctx} [GoodC Γ] : Sat S184 (SF N Γ F184) := by
  rintro _ h K ⟨s, rfl, hsl, hK⟩
  refine i_fun rfl ?_
  simp only [F184, env0, List.map, List.length, List.replicate, List.cons_append, List.nil_append, Nat.reduceSub, Nat.reduceAdd]
  have hno : ¬ figOk s → K (.tuple #[.int .i64 0, .bool false]) h := fun hn => by
    have := hK
    rw [if_neg hn, decide_eq_false (fun h => hn h.1)] at this; exact this
  try simp (disch := first | omega | (simp only [PL]; omega)) only [PS, P1, P2, P3, P4, P5, P6, P7, P8, PA, PB, PC, Nat.reduceAdd, Nat.reduceSub, Nat.reduceMul, Nat.reduceLeDiff, Nat.reduceEqDiff, Nat.succ_ne_self, reduceCtorEq, Int.reduceToNat, Int.cast_ofNat_Int, Int.reduceEq, Int.reduceNe, Int.reduceLT, Int.reduceLE]
  refine i_loop (fun i : Nat => [some (.string (str s)), none, none, some (.int .i64 (numv (s.take i) : Nat)), some (.int .i64 (i : Nat)), none, none]) (fun i H => H = h ∧ i ≤ s.length ∧ i ≤ 9 ∧ digs (s.take i)) (fun i => s.length - i) 0 (by try simp only [Pe, and_true, true_and, and_self]; exact ⟨rfl, rfl⟩) ⟨rfl, by omega, by omega, by intro b hb; simp at hb⟩ ?_
  rintro i H ⟨rfl, hi, hi9, hd⟩
  have hwi : IntKind.i64.wrap ((i : Int) + 1) = ((i + 1 : Nat) : Int) := by rw [w64 (by omega) (by omega)]; omega
  try simp (disch := first | omega | (simp only [PL]; omega)) only [PS, P1, P2, P3, P4, P5, P6, P7, P8, PA, PB, PC, Nat.reduceAdd, Nat.reduceSub, Nat.reduceMul, Nat.reduceLeDiff, Nat.reduceEqDiff, Nat.succ_ne_self, reduceCtorEq, Int.reduceToNat, Int.cast_ofNat_Int, Int.reduceEq, Int.reduceNe, Int.reduceLT, Int.reduceLE]
  refine i_cond (fun c2 => ?_) (fun c2 => ?_)
  rotate_left
  · have : i = s.length := by omega
    subst this
    rw [List.take_length] at hd ⊢
    have hok : figOk s := ⟨hi9, hd⟩
    rw [if_pos hok] at hK
    have e : decide (figOk s ∧ s ≠ []) = decide (s ≠ []) := by simp [hok]
    rw [e] at hK
    try simp (disch := first | omega | (simp only [PL]; omega)) only [PS, P1, P2, P3, P4, P5, P6, P7, P8, PA, PB, PC, Nat.reduceAdd, Nat.reduceSub, Nat.reduceMul, Nat.reduceLeDiff, Nat.reduceEqDiff, Nat.succ_ne_self, reduceCtorEq, Int.reduceToNat, Int.cast_ofNat_Int, Int.reduceEq, Int.reduceNe, Int.reduceLT, Int.reduceLE]
    exact hK
  have hi2 : i < s.length := by omega
  have hlt := numv_lt hd
  have hpw : 10 ^ (s.take i).length ≤ 10 ^ 9 := Nat.pow_le_pow_right (by omega) (by rw [List.length_take]; omega)
  have hb := (s.getD i 0).toNat_lt
  try simp (disch := first | omega | (simp only [PL]; omega)) only [PS, P1, P2, P3, P4, P5, P6, P7, P8, PA, PB, PC, Nat.reduceAdd, Nat.reduceSub, Nat.reduceMul, Nat.reduceLeDiff, Nat.reduceEqDiff, Nat.succ_ne_self, reduceCtorEq, Int.reduceToNat, Int.cast_ofNat_Int, Int.reduceEq, Int.reduceNe, Int.reduceLT, Int.reduceLE]
  refine i_cond (fun c3 => ?_) (fun c3 => ?_)
  · try simp (disch := first | omega | (simp only [PL]; omega)) only [PS, P1, P2, P3, P4, P5, P6, P7, P8, PA, PB, PC, Nat.reduceAdd, Nat.reduceSub, Nat.reduceMul, Nat.reduceLeDiff, Nat.reduceEqDiff, Nat.succ_ne_self, reduceCtorEq, Int.reduceToNat, Int.cast_ofNat_Int, Int.reduceEq, Int.reduceNe, Int.reduceLT, Int.reduceLE]
    refine hno fun hn => ?_
    have := digs_at hn.2 hi2
    have := hn.1
    omega
  have hb1 : 48 ≤ (s.getD i 0).toNat := by omega
  have hb2 : (s.getD i 0).toNat ≤ 57 := by omega
  have hws := u8sub hb1
  have hwc : IntKind.i64.wrap (((s.getD i 0).toNat - 48 : Nat) : Int) = (((s.getD i 0).toNat - 48 : Nat) : Int) := w64 (by omega) (by omega)
  have hwm : IntKind.i64.wrap (10 * ((numv (s.take i) : Nat) : Int)) = ((10 * numv (s.take i) : Nat) : Int) := by rw [w64 (by omega) (by omega)]; omega
  have hwa : IntKind.i64.wrap (((10 * numv (s.take i) : Nat) : Int) + (((s.getD i 0).toNat - 48 : Nat) : Int)) = ((numv (s.take (i + 1)) : Nat) : Int) := by rw [numv_take hi2, w64 (by omega) (by omega)]; omega
  try simp (disch := first | omega | (simp only [PL]; omega)) only [PS, P1, P2, P3, P4, P5, P6, P7, P8, PA, PB, PC, Nat.reduceAdd, Nat.reduceSub, Nat.reduceMul, Nat.reduceLeDiff, Nat.reduceEqDiff, Nat.succ_ne_self, reduceCtorEq, Int.reduceToNat, Int.cast_ofNat_Int, Int.reduceEq, Int.reduceNe, Int.reduceLT, Int.reduceLE, hws, hwc, hwm, hwa, hwi]
  exact k_loop (i + 1) (by omega) (by try simp only [Pe, and_true, true_and, and_self]) ⟨rfl, by omega, by omega, digs_take hd hi2 hb1 hb2⟩
def S177 : Spec := fun args h K => ∃ k : Int, args = [.int .i64 k] ∧ 1 ≤ k ∧ k ≤ 3 ∧ K (.string (str (kname k))) h
theorem F177_ok {N : Num} {Γ : Ctx} [GoodC Γ] : Sat S177 (SF N Γ F177) := by
  rintro _ h K ⟨k, rfl, h1, h2, hK⟩
  refine i_fun rfl ?_
  simp only [F177, env0, List.map, List.length, List.replicate, List.cons_append, List.nil_append, Nat.reduceSub, Nat.reduceAdd]
  have hk : k = 1 ∨ k = 2 ∨ k = 3 := by omega
  rcases hk with rfl | rfl | rfl
  · try simp (disch := first | omega | (simp only [PL]; omega)) only [PS, P1, P2, P3, P4, P5, P6, P7, P8, PA, PB, PC, Nat.reduceAdd, Nat.reduceSub, Nat.reduceMul, Nat.reduceLeDiff, Nat.reduceEqDiff, Nat.succ_ne_self, reduceCtorEq, Int.reduceToNat, Int.cast_ofNat_Int, Int.reduceEq, Int.reduceNe, Int.reduceLT, Int.reduceLE, show IntKind.i64.wrap (1 - 1) = 0 from rfl]
    exact hK
  · try simp (disch := first | omega | (simp only [PL]; omega)) only [PS, P1, P2, P3, P4, P5, P6, P7, P8, PA, PB, PC, Nat.reduceAdd, Nat.reduceSub, Nat.reduceMul, Nat.reduceLeDiff, Nat.reduceEqDiff, Nat.succ_ne_self, reduceCtorEq, Int.reduceToNat, Int.cast_ofNat_Int, Int.reduceEq, Int.reduceNe, Int.reduceLT, Int.reduceLE, show IntKind.i64.wrap (2 - 1) = 1 from rfl]
    exact hK
  · try simp (disch := first | omega | (simp only [PL]; omega)) only [PS, P1, P2, P3, P4, P5, P6, P7, P8, PA, PB, PC, Nat.reduceAdd, Nat.reduceSub, Nat.reduceMul, Nat.reduceLeDiff, Nat.reduceEqDiff, Nat.succ_ne_self, reduceCtorEq, Int.reduceToNat, Int.cast_ofNat_Int, Int.reduceEq, Int.reduceNe, Int.reduceLT, Int.reduceLE, show IntKind.i64.wrap (3 - 1) = 2 from rfl]
    exact hK
/-- the piece that ends at a place -/
theorem pcs_step {c : UInt8} {s : List UInt8} {f i : Nat} (hi : i < s.length) (hf : f ≤ i) (hc : s.getD i 0 = c) (hn : c ∉ (s.take i).drop f) : pcs c (s.drop f) = (s.take i).drop f :: pcs c (s.drop (i + 1)) := by
  have e : s.drop f = (s.take i).drop f ++ c :: s.drop (i + 1) := by
    have e1 : s = s.take i ++ c :: s.drop (i + 1) := by
      conv => lhs; rw [← List.take_append_drop i s, List.drop_eq_getElem_cons hi]
      rw [← hc, List.getD_eq_getElem?_getD, List.getElem?_eq_getElem hi]; rfl
    conv => lhs; rw [e1]
    rw [List.drop_append_of_le_length (by rw [List.length_take]; omega)]
  rw [e, pcs_cons hn]
def CutI (s : List UInt8) (c : UInt8) (h : Heap) (i f : Nat) (v : Value) (H : Heap) : Prop := ∃ L, OwnS encT 1 h H v L ∧ L.length ≤ i ∧ (i ≤ s.length → f ≤ i ∧ pcs c s = L ++ pcs c (s.drop f) ∧ c ∉ (s.take i).drop f) ∧ (i = s.length + 1 → L = pcs c s)
def S183 : Spec := fun args h K => ∃ s, ∃ c : UInt8, args = [.string (str s), .int .u8 (c.toNat : Nat)] ∧ s.length ≤ 1000000 ∧ ∀ v h', OwnS encT 1 h h' v (pcs c s) → K v h'
theorem F183_ok {N : Num} {Γ : Ctx} [GoodC Γ] : Sat S183 (SF N Γ F183) := by
  rintro _ h K ⟨s, c, rfl, hsl, hK⟩
  refine i_fun rfl ?_
  simp only [F183, env0, List.map, List.length, List.replicate, List.cons_append, List.nil_append, Nat.reduceSub, Nat.reduceAdd]
  try simp (disch := first | omega | (simp only [PL]; omega)) only [PS, P1, P2, P3, P4, P5, P6, P7, P8, PA, PB, PC, Nat.reduceAdd, Nat.reduceSub, Nat.reduceMul, Nat.reduceLeDiff, Nat.reduceEqDiff, Nat.succ_ne_self, reduceCtorEq, Int.reduceToNat, Int.cast_ofNat_Int, Int.reduceEq, Int.reduceNe, Int.reduceLT, Int.reduceLE]
  refine i_loop (fun x : Nat × Nat × Value => [some (.string (str s)), some (.int .u8 (c.toNat : Nat)), none, some x.2.2, some (.int .i64 (x.2.1 : Nat)), some (.int .i64 (x.1 : Nat)), none, none, none, none, none])
    (fun x H => x.1 ≤ s.length + 1 ∧ CutI s c h x.1 x.2.1 x.2.2 H) (fun x => s.length + 1 - x.1) (0, 0, .slice none 0 0) (by dsimp only; try simp only [Pe, and_true, true_and, and_self]; simp) ⟨by dsimp only; omega, [], OwnS.nil (Heap.le.refl h), by simp, fun _ => ⟨Nat.le_refl _, by simp, by simp⟩, fun h => by dsimp only at h; omega⟩ ?_
  rintro ⟨i, f, v⟩ H ⟨hi, L, hO, hL, h1, h2⟩
  dsimp only at hi hO hL h1 h2 ⊢
  have hwi : IntKind.i64.wrap ((i : Int) + 1) = ((i + 1 : Nat) : Int) := by rw [w64 (by omega) (by omega)]; omega
  try simp (disch := first | omega | (simp only [PL]; omega)) only [PS, P1, P2, P3, P4, P5, P6, P7, P8, PA, PB, PC, Nat.reduceAdd, Nat.reduceSub, Nat.reduceMul, Nat.reduceLeDiff, Nat.reduceEqDiff, Nat.succ_ne_self, reduceCtorEq, Int.reduceToNat, Int.cast_ofNat_Int, Int.reduceEq, Int.reduceNe, Int.reduceLT, Int.reduceLE]
  refine i_cond (fun c2 => ?_) (fun c2 => ?_)
  rotate_left
  · have e := h2 (by omega)
    rw [e] at hO
    try simp (disch := first | omega | (simp only [PL]; omega)) only [PS, P1, P2, P3, P4, P5, P6, P7, P8, PA, PB, PC, Nat.reduceAdd, Nat.reduceSub, Nat.reduceMul, Nat.reduceLeDiff, Nat.reduceEqDiff, Nat.succ_ne_self, reduceCtorEq, Int.reduceToNat, Int.cast_ofNat_Int, Int.reduceEq, Int.reduceNe, Int.reduceLT, Int.reduceLE]
    exact hK v H hO
  have hi2 : i ≤ s.length := by omega
  obtain ⟨hf, hp, hnc⟩ := h1 hi2
  have O1 := hO.slb.1.one
  by_cases hci : i < s.length ∧ s.getD i 0 ≠ c
  · obtain ⟨hi3, hcn⟩ := hci
    have q1 : ((i : Int) = (s.length : Nat)) = False := by rw [eq_iff_iff]; simp; omega
    have q2 : (((s.getD i 0).toNat : Int) = (c.toNat : Nat)) = False := by
      rw [eq_iff_iff, iff_false]; intro e; exact hcn (UInt8.toNat_inj.1 (by omega))
    try simp (disch := first | omega | (simp only [PL]; omega)) only [PS, P1, P2, P3, P4, P5, P6, P7, P8, PA, PB, PC, Nat.reduceAdd, Nat.reduceSub, Nat.reduceMul, Nat.reduceLeDiff, Nat.reduceEqDiff, Nat.succ_ne_self, reduceCtorEq, Int.reduceToNat, Int.cast_ofNat_Int, Int.reduceEq, Int.reduceNe, Int.reduceLT, Int.reduceLE, q1, q2, hwi]
    refine k_loop (i + 1, f, v) (by dsimp only; omega) (by dsimp only; try simp only [Pe, and_true, true_and, and_self]) ⟨by dsimp only; omega, L, hO, by dsimp only; omega, fun _ => ⟨by dsimp only; omega, hp, ?_⟩, fun h => by dsimp only at h; omega⟩
    dsimp only
    rw [take_succ_d 0 hi3, List.drop_append_of_le_length (by rw [List.length_take]; omega), List.mem_append, List.mem_singleton, not_or]
    exact ⟨hnc, Ne.symm hcn⟩
  have hpp : pcs c (s.drop f) = (s.take i).drop f :: (if i = s.length then [] else pcs c (s.drop (i + 1))) := by
    by_cases he : i = s.length
    · rw [if_pos he]
      subst he
      rw [List.take_length] at hnc ⊢
      rw [pcs_no hnc]
    · rw [if_neg he]
      refine pcs_step (by omega) hf ?_ hnc
      exact Decidable.byContradiction fun hc => hci ⟨by omega, hc⟩
  by_cases he : i = s.length
  · have q1 : ((i : Int) = (s.length : Nat)) = True := by rw [eq_iff_iff]; simp; omega
    try simp (disch := first | omega | (simp only [PL]; omega)) only [PS, P1, P2, P3, P4, P5, P6, P7, P8, PA, PB, PC, Nat.reduceAdd, Nat.reduceSub, Nat.reduceMul, Nat.reduceLeDiff, Nat.reduceEqDiff, Nat.succ_ne_self, reduceCtorEq, Int.reduceToNat, Int.cast_ofNat_Int, Int.reduceEq, Int.reduceNe, Int.reduceLT, Int.reduceLE, q1, O1.1, O1.2]
    refine i_bslS encT 1 (fun _ => rfl) [(s.take i).drop f] (by simp [encT]) rfl (by simp [maxLen]) fun x1 H2 hle2 ho2 => ?_
    have O2 := ho2.slb.1.one
    try simp (disch := first | omega | (simp only [PL]; omega)) only [PS, P1, P2, P3, P4, P5, P6, P7, P8, PA, PB, PC, Nat.reduceAdd, Nat.reduceSub, Nat.reduceMul, Nat.reduceLeDiff, Nat.reduceEqDiff, Nat.succ_ne_self, reduceCtorEq, Int.reduceToNat, Int.cast_ofNat_Int, Int.reduceEq, Int.reduceNe, Int.reduceLT, Int.reduceLE, O2.1, O2.2]
    refine i_app (enc := encT) (sz := 1) (l := L) (l' := [(s.take i).drop f]) (fun _ => rfl) (fun _ => rfl) (OwnS.base (hO.grow hle2) (join_l _ _)) (ho2.sl (fun _ => rfl)) (by simp; omega) fun v' H3 hO3 => ?_
    try simp (disch := first | omega | (simp only [PL]; omega)) only [PS, P1, P2, P3, P4, P5, P6, P7, P8, PA, PB, PC, Nat.reduceAdd, Nat.reduceSub, Nat.reduceMul, Nat.reduceLeDiff, Nat.reduceEqDiff, Nat.succ_ne_self, reduceCtorEq, Int.reduceToNat, Int.cast_ofNat_Int, Int.reduceEq, Int.reduceNe, Int.reduceLT, Int.reduceLE, hwi]
    refine k_loop (i + 1, i + 1, v') (by dsimp only; omega) (by dsimp only; try simp only [Pe, and_true, true_and, and_self]) ⟨by dsimp only; omega, _, hO3, by dsimp only; simp; omega, fun h => by dsimp only at h; omega, fun _ => ?_⟩
    rw [hp, hpp, if_pos he]
  · have q1 : ((i : Int) = (s.length : Nat)) = False := by rw [eq_iff_iff]; simp; omega
    have hc : s.getD i 0 = c := Decidable.byContradiction fun hc => hci ⟨by omega, hc⟩
    have q2 : (((s.getD i 0).toNat : Int) = (c.toNat : Nat)) = True := by rw [hc]; simp
    try simp (disch := first | omega | (simp only [PL]; omega)) only [PS, P1, P2, P3, P4, P5, P6, P7, P8, PA, PB, PC, Nat.reduceAdd, Nat.reduceSub, Nat.reduceMul, Nat.reduceLeDiff, Nat.reduceEqDiff, Nat.succ_ne_self, reduceCtorEq, Int.reduceToNat, Int.cast_ofNat_Int, Int.reduceEq, Int.reduceNe, Int.reduceLT, Int.reduceLE, q1, q2, O1.1, O1.2]
    refine i_bslS encT 1 (fun _ => rfl) [(s.take i).drop f] (by simp [encT]) rfl (by simp [maxLen]) fun x1 H2 hle2 ho2 => ?_
    have O2 := ho2.slb.1.one
    try simp (disch := first | omega | (simp only [PL]; omega)) only [PS, P1, P2, P3, P4, P5, P6, P7, P8, PA, PB, PC, Nat.reduceAdd, Nat.reduceSub, Nat.reduceMul, Nat.reduceLeDiff, Nat.reduceEqDiff, Nat.succ_ne_self, reduceCtorEq, Int.reduceToNat, Int.cast_ofNat_Int, Int.reduceEq, Int.reduceNe, Int.reduceLT, Int.reduceLE, O2.1, O2.2]
    refine i_app (enc := encT) (sz := 1) (l := L) (l' := [(s.take i).drop f]) (fun _ => rfl) (fun _ => rfl) (OwnS.base (hO.grow hle2) (join_l _ _)) (ho2.sl (fun _ => rfl)) (by simp; omega) fun v' H3 hO3 => ?_
    try simp (disch := first | omega | (simp only [PL]; omega)) only [PS, P1, P2, P3, P4, P5, P6, P7, P8, PA, PB, PC, Nat.reduceAdd, Nat.reduceSub, Nat.reduceMul, Nat.reduceLeDiff, Nat.reduceEqDiff, Nat.succ_ne_self, reduceCtorEq, Int.reduceToNat, Int.cast_ofNat_Int, Int.reduceEq, Int.reduceNe, Int.reduceLT, Int.reduceLE, hwi]
    refine k_loop (i + 1, i + 1, v') (by dsimp only; omega) (by dsimp only; try simp only [Pe, and_true, true_and, and_self]) ⟨by dsimp only; omega, _, hO3, by dsimp only; simp; omega, fun _ => ⟨Nat.le_refl _, ?_, ?_⟩, fun h => by dsimp only at h; omega⟩
    · dsimp only
      rw [hp, hpp, if_neg he, List.append_assoc]; rfl
    · dsimp only
      simp
def S179 : Spec := fun args h K => ∃ n w : Nat, args = [.int .i64 n, .int .i64 w] ∧ n ≤ 9223372036854775807 ∧ w ≤ 100 ∧ ∀ h', Heap.le h h' → K (.string (str (padD n w))) h'
theorem F179_ok {N : Num} {Γ : Ctx} [GoodC Γ] (H85 : Sat S85 (Γ 85)) : Sat S179 (SF N Γ F179) := by
  rintro _ h K ⟨n, w, rfl, hn, hw, hK⟩
  refine i_fun rfl ?_
  simp only [F179, env0, List.map, List.length, List.replicate, List.cons_append, List.nil_append, Nat.reduceSub, Nat.reduceAdd]
  have hdl := dec_len 19 (n := n) (by omega) (by omega)
  try simp (disch := first | omega | (simp only [PL]; omega)) only [PS, P1, P2, P3, P4, P5, P6, P7, P8, PA, PB, PC, Nat.reduceAdd, Nat.reduceSub, Nat.reduceMul, Nat.reduceLeDiff, Nat.reduceEqDiff, Nat.succ_ne_self, reduceCtorEq, Int.reduceToNat, Int.cast_ofNat_Int, Int.reduceEq, Int.reduceNe, Int.reduceLT, Int.reduceLE]
  refine i_call H85 ⟨n, rfl, hn, fun h1 hle => ?_⟩
  try simp (disch := first | omega | (simp only [PL]; omega)) only [PS, P1, P2, P3, P4, P5, P6, P7, P8, PA, PB, PC, Nat.reduceAdd, Nat.reduceSub, Nat.reduceMul, Nat.reduceLeDiff, Nat.reduceEqDiff, Nat.succ_ne_self, reduceCtorEq, Int.reduceToNat, Int.cast_ofNat_Int, Int.reduceEq, Int.reduceNe, Int.reduceLT, Int.reduceLE]
  refine i_loop (fun k : Nat => [some (.int .i64 n), some (.int .i64 w), none, some (.string (str (List.replicate k 48 ++ dec n))), none, none]) (fun k H => H = h1 ∧ k ≤ w - (dec n).length) (fun k => w - (dec n).length - k) 0 (by try simp only [Pe, and_true, true_and, and_self]; rfl) ⟨rfl, by omega⟩ ?_
  rintro k H ⟨rfl, hk⟩
  have hl : (List.replicate k (48 : UInt8)).length = k := by simp
  try simp (disch := first | omega | (simp only [PL]; omega)) only [PS, P1, P2, P3, P4, P5, P6, P7, P8, PA, PB, PC, Nat.reduceAdd, Nat.reduceSub, Nat.reduceMul, Nat.reduceLeDiff, Nat.reduceEqDiff, Nat.succ_ne_self, reduceCtorEq, Int.reduceToNat, Int.cast_ofNat_Int, Int.reduceEq, Int.reduceNe, Int.reduceLT, Int.reduceLE]
  refine i_cond (fun c => ?_) (fun c => ?_)
  · try simp (disch := first | omega | (simp only [PL]; omega)) only [PS, P1, P2, P3, P4, P5, P6, P7, P8, PA, PB, PC, Nat.reduceAdd, Nat.reduceSub, Nat.reduceMul, Nat.reduceLeDiff, Nat.reduceEqDiff, Nat.succ_ne_self, reduceCtorEq, Int.reduceToNat, Int.cast_ofNat_Int, Int.reduceEq, Int.reduceNe, Int.reduceLT, Int.reduceLE]
    simp only [List.length_append, List.length_replicate] at c
    refine k_loop (k + 1) (by omega) (by try simp only [Pe, and_true, true_and, and_self]; rfl) ⟨rfl, by omega⟩
  · try simp (disch := first | omega | (simp only [PL]; omega)) only [PS, P1, P2, P3, P4, P5, P6, P7, P8, PA, PB, PC, Nat.reduceAdd, Nat.reduceSub, Nat.reduceMul, Nat.reduceLeDiff, Nat.reduceEqDiff, Nat.succ_ne_self, reduceCtorEq, Int.reduceToNat, Int.cast_ofNat_Int, Int.reduceEq, Int.reduceNe, Int.reduceLT, Int.reduceLE]
    simp only [List.length_append, List.length_replicate] at c
    have e : k = w - (dec n).length := by omega
    subst e
    exact hK _ hle
end Go.Cw
namespace Go.Cw
open Go

theorem valB_append (l m : List Bool) : valB (l ++ m) = valB l * 2 ^ m.length + valB m := by
  induction m using snoc_ind with
  | h0 => simp [valB]
  | hs m x ih => rw [← List.append_assoc, valB_snoc, ih, valB_snoc, List.length_append, List.length_singleton, Nat.pow_succ, Nat.mul_add, Nat.add_assoc]; congr 1; rw [Nat.mul_comm 2, Nat.mul_assoc]
theorem bitsN_succ (n k : Nat) : bitsN n (k + 1) = bitsN (n / 2) k ++ [decide (n % 2 = 1)] := by
  unfold bitsN
  rw [List.range_succ, List.map_append]
  congr 1
  · refine List.map_congr_left fun i hi => ?_
    have := List.mem_range.1 hi
    congr 2
    rw [show k + 1 - 1 - i = (k - 1 - i) + 1 by omega, Nat.pow_succ, Nat.mul_comm, ← Nat.div_div_eq_div_mul]
  · simp
theorem valB_bitsN : ∀ (k n : Nat), valB (bitsN n k) = n % 2 ^ k := by
  intro k
  induction k with
  | zero => intro n; simp [bitsN, valB, Nat.mod_one]
  | succ k ih =>
    intro n
    rw [bitsN_succ, valB_snoc, ih, Nat.pow_succ, Nat.mul_comm (2 ^ k) 2, Nat.mod_mul]
    have : (decide (n % 2 = 1)).toNat = n % 2 := by
      rcases Nat.mod_two_eq_zero_or_one n with h | h <;> rw [h] <;> rfl
    rw [this]; omega
theorem valB_part (B : List Bool) {s k : Nat} (h : s + k ≤ B.length) : valB ((B.drop s).take k) = valB B / 2 ^ (B.length - s - k) % 2 ^ k := by
  have e : B = B.take s ++ ((B.drop s).take k ++ (B.drop s).drop k) := by rw [List.take_append_drop, List.take_append_drop]
  generalize hm : (B.drop s).take k = m at *
  generalize hr : (B.drop s).drop k = r at *
  have hml : m.length = k := by rw [← hm, List.length_take, List.length_drop]; omega
  have hrl : r.length = B.length - s - k := by rw [← hr, List.length_drop, List.length_drop]
  rw [← hrl]
  conv => rhs; rw [e]
  rw [valB_append, valB_append, List.length_append, hml, Nat.pow_add]
  have h1 := valB_lt r
  have h2 := valB_lt m
  rw [hml] at h2
  have e3 : valB (B.take s) * (2 ^ k * 2 ^ r.length) + (valB m * 2 ^ r.length + valB r) = (valB (B.take s) * 2 ^ k + valB m) * 2 ^ r.length + valB r := by
    rw [Nat.add_mul, Nat.mul_assoc]; omega
  rw [e3, Nat.add_comm, Nat.add_mul_div_right _ _ (Nat.pow_pos (by omega)), Nat.div_eq_of_lt h1, Nat.zero_add, Nat.add_comm, Nat.add_mul_mod_self_right, Nat.mod_eq_of_lt h2]

/-- fields, one behind the other -/
def accN (n : Nat) (l : List (Nat × Nat)) : Nat := l.foldl (fun n q => n * 2 ^ q.1 + q.2) n
theorem accN_snoc (n : Nat) (l : List (Nat × Nat)) (q : Nat × Nat) : accN n (l ++ [q]) = accN n l * 2 ^ q.1 + q.2 := by simp [accN]
def widths (l : List (Nat × Nat)) : Nat := l.foldl (fun n q => n + q.1) 0
theorem widths_snoc (l : List (Nat × Nat)) (q : Nat × Nat) : widths (l ++ [q]) = widths l + q.1 := by simp [widths]
theorem accN_lt {n : Nat} (hn : n < 2 ^ 8) : ∀ {l : List (Nat × Nat)}, (∀ q ∈ l, q.2 < 2 ^ q.1) → accN n l < 2 ^ (8 + widths l) := by
  intro l
  induction l using snoc_ind with
  | h0 => intro _; simpa [accN, widths] using hn
  | hs l q ih =>
    intro h
    have h1 := ih fun x hx => h x (by simp [hx])
    have h2 := h q (by simp)
    rw [accN_snoc, widths_snoc, ← Nat.add_assoc, Nat.pow_add]
    have : (accN n l + 1) * 2 ^ q.1 ≤ 2 ^ (8 + widths l) * 2 ^ q.1 := Nat.mul_le_mul_right _ h1
    rw [Nat.add_mul] at this; omega
def fieldsOf (t : Tg) (a : Pa) : List (Nat × Nat) := [(3, t.filter.toNat), (3, t.part.toNat), (a.cb, t.company.toNat), (a.rb, t.ref.toNat), (24, t.serial.toNat)]
theorem pow10 {p : Int} {a : Pa} (h : partsOf p = some a) : 10 ^ a.cd ≤ 2 ^ a.cb ∧ 10 ^ a.rd ≤ 2 ^ a.rb := by
  unfold partsOf at h
  repeat' split at h
  all_goals first | (cases h; done) | (cases h; decide)
theorem fields_lt {t : Tg} {a : Pa} (h : ¬ t.bad) (ha : partsOf t.part = some a) : ∀ q ∈ fieldsOf t a, q.2 < 2 ^ q.1 := by
  obtain ⟨a', ha', k1, k2, f1, f2, s1, s2, c1, c2, r1, r2⟩ := Tg.good h
  rw [ha] at ha'; cases ha'
  obtain ⟨p1, p2⟩ := pow10 ha
  have hp : 0 ≤ t.part ∧ t.part < 6 := by
    refine Classical.byContradiction fun hc => ?_
    rw [partsOf_none.2 (by omega)] at ha; cases ha
  intro q hq
  simp only [fieldsOf, List.mem_cons, List.not_mem_nil, or_false] at hq
  rcases hq with rfl | rfl | rfl | rfl | rfl <;> dsimp only <;> omega
theorem valB_fields {t : Tg} {a : Pa} (h : ¬ t.bad) (ha : partsOf t.part = some a) : valB (tagBits t a) = accN (47 + t.kind).toNat (fieldsOf t a) := by
  have hl := fields_lt h ha
  obtain ⟨a', ha', k1, k2, _⟩ := Tg.good h
  simp only [fieldsOf, List.mem_cons, List.not_mem_nil, or_false, forall_eq_or_imp, forall_eq] at hl
  obtain ⟨l1, l2, l3, l4, l5⟩ := hl
  unfold tagBits fieldsOf accN
  simp only [valB_append, bitsN_len, valB_bitsN, List.foldl_cons, List.foldl_nil]
  rw [Nat.mod_eq_of_lt l1, Nat.mod_eq_of_lt l2, Nat.mod_eq_of_lt l3, Nat.mod_eq_of_lt l4, Nat.mod_eq_of_lt l5, Nat.mod_eq_of_lt (show (47 + t.kind).toNat < 2 ^ 8 by omega)]
theorem packB_num {B : List Bool} (hB : B.length = 64) {i : Nat} (hi : i < 8) : (packB B).getD i 0 = UInt8.ofNat (valB B / 2 ^ (56 - 8 * i) % 256) := by
  rw [packB_get B hi, valB_part B (by omega), hB, show 64 - 8 * i - 8 = 56 - 8 * i by omega]
theorem or_low {x y k : Nat} (hy : y < 2 ^ k) : x * 2 ^ k ||| y = x * 2 ^ k + y := by
  rw [← Nat.shiftLeft_eq, Nat.shiftLeft_add_eq_or_of_lt hy]

def encN2 (q : Nat × Nat) : List Value := [.int .i64 (q.1 : Nat), .int .i64 (q.2 : Nat)]
def S162 (N : Num) : Spec := fun args h K => ∃ t : Tg, args = [aggT t] ∧ (t.bad → ∀ h', Heap.le h h' → K (.tuple #[.string (str []), errV N 1]) h') ∧ (¬ t.bad → ∀ h', Heap.le h h' → K (.tuple #[.string (str (bytesOf t)), .nilIface]) h')
theorem F162_ok {N : Num} {Γ : Ctx} [GoodC Γ] (H108 : Sat (S108 N) (Γ 108)) (H107 : Sat S107 (Γ 107)) : Sat (S162 N) (SF N Γ F162) := by
  rintro _ h K ⟨t, rfl, hK1, hK2⟩
  refine i_fun rfl ?_
  simp only [F162, env0, List.map, List.length, List.replicate, List.cons_append, List.nil_append, Nat.reduceSub, Nat.reduceAdd, aggT]
  try simp (disch := first | omega | (simp only [PL]; omega)) only [PS, P1, P2, P3, P4, P5, P6, P7, P8, PA, PB, PC, Nat.reduceAdd, Nat.reduceSub, Nat.reduceMul, Nat.reduceLeDiff, Nat.reduceEqDiff, Nat.succ_ne_self, reduceCtorEq, Int.reduceToNat, Int.cast_ofNat_Int, Int.reduceEq, Int.reduceNe, Int.reduceLT, Int.reduceLE]
  refine i_call H108 ⟨t, rfl, fun h1 hle1 => ?_⟩
  by_cases hb : t.bad
  · rw [fault_bad hb]
    try simp (disch := first | omega | (simp only [PL]; omega)) only [PS, P1, P2, P3, P4, P5, P6, P7, P8, PA, PB, PC, Nat.reduceAdd, Nat.reduceSub, Nat.reduceMul, Nat.reduceLeDiff, Nat.reduceEqDiff, Nat.succ_ne_self, reduceCtorEq, Int.reduceToNat, Int.cast_ofNat_Int, Int.reduceEq, Int.reduceNe, Int.reduceLT, Int.reduceLE, errV_succ]
    exact hK1 hb h1 hle1
  rw [fault_ok hb]
  have hK := hK2 hb
  clear hK1 hK2
  obtain ⟨a, ha, k1, k2, f1, f2, s1, s2, c1, c2, r1, r2⟩ := Tg.good hb
  have hpa := partsOf_some ha
  have hfl := fields_lt hb ha
  have hvb := valB_fields hb ha
  have hBl := tagBits_len t ha
  have hp : 0 ≤ t.part ∧ t.part < 6 := by
    refine Classical.byContradiction fun hc => ?_
    rw [partsOf_none.2 (by omega)] at ha; cases ha
  have ebytes : bytesOf t = packB (tagBits t a) := by unfold bytesOf; rw [ha]; rfl
  rw [ebytes] at hK
  try simp (disch := first | omega | (simp only [PL]; omega)) only [PS, P1, P2, P3, P4, P5, P6, P7, P8, PA, PB, PC, Nat.reduceAdd, Nat.reduceSub, Nat.reduceMul, Nat.reduceLeDiff, Nat.reduceEqDiff, Nat.succ_ne_self, reduceCtorEq, Int.reduceToNat, Int.cast_ofNat_Int, Int.reduceEq, Int.reduceNe, Int.reduceLT, Int.reduceLE, errV_zero]
  refine i_call H107 ⟨t.part, rfl, fun h2 hle2 => ?_⟩
  simp only [paV, ha, Option.elim, Pa.enc]
  obtain ⟨kn, hkn⟩ : ∃ n : Nat, 47 + t.kind = n := ⟨(47 + t.kind).toNat, by omega⟩
  obtain ⟨fn, hfn⟩ : ∃ n : Nat, t.filter = n := ⟨t.filter.toNat, by omega⟩
  obtain ⟨pn, hpn⟩ : ∃ n : Nat, t.part = n := ⟨t.part.toNat, by omega⟩
  obtain ⟨cn, hcn⟩ : ∃ n : Nat, t.company = n := ⟨t.company.toNat, by omega⟩
  obtain ⟨rn, hrn⟩ : ∃ n : Nat, t.ref = n := ⟨t.ref.toNat, by omega⟩
  obtain ⟨sn, hsn⟩ : ∃ n : Nat, t.serial = n := ⟨t.serial.toNat, by omega⟩
  have hF : fieldsOf t a = [(3, fn), (3, pn), (a.cb, cn), (a.rb, rn), (24, sn)] := by simp [fieldsOf, hfn, hpn, hcn, hrn, hsn]
  have hkw : IntKind.i64.wrap (47 + t.kind) = (kn : Int) := by rw [w64 (by omega) (by omega), hkn]
  have hku : IntKind.u64.wrap (kn : Int) = (kn : Int) := wrap_u64 kn (by omega)
  have hk256 : kn < 2 ^ 8 := by omega
  rw [hkn, Int.toNat_natCast] at hvb
  have hwid : widths (fieldsOf t a) = 56 := by rw [hF]; simp [widths]; omega
  rw [hfn, hpn, hcn, hrn, hsn]
  try simp (disch := first | omega | (simp only [PL]; omega)) only [PS, P1, P2, P3, P4, P5, P6, P7, P8, PA, PB, PC, Nat.reduceAdd, Nat.reduceSub, Nat.reduceMul, Nat.reduceLeDiff, Nat.reduceEqDiff, Nat.succ_ne_self, reduceCtorEq, Int.reduceToNat, Int.cast_ofNat_Int, Int.reduceEq, Int.reduceNe, Int.reduceLT, Int.reduceLE, hkw, hku]
  refine i_bslS encN2 2 (fun _ => rfl) (fieldsOf t a) (by rw [hF]; rfl) (by rw [hF]; rfl) (by rw [hF]; simp [maxLen]) fun v5 h5 hle5 ho5 => ?_
  have hS5 := ho5.sl (enc := encN2) (fun _ => rfl)
  have O5 := ho5.slb.1.one
  have R5 := hS5.rules 2 (fun _ => rfl) (0, 0)
  have h5l : (fieldsOf t a).length = 5 := by rw [hF]; rfl
  have hle05 : Heap.le h h5 := hle1.trans (hle2.trans hle5)
  rw [h5l] at R5
  try simp (disch := first | omega | (simp only [PL]; omega)) only [PS, P1, P2, P3, P4, P5, P6, P7, P8, PA, PB, PC, Nat.reduceAdd, Nat.reduceSub, Nat.reduceMul, Nat.reduceLeDiff, Nat.reduceEqDiff, Nat.succ_ne_self, reduceCtorEq, Int.reduceToNat, Int.cast_ofNat_Int, Int.reduceEq, Int.reduceNe, Int.reduceLT, Int.reduceLE, O5.1, O5.2, R5]
  refine i_meet_blk (fun env H => Heap.le h H ∧ env = [none, none, none, none, none, none, some (.int .u64 (accN kn (fieldsOf t a) : Nat)), none, none, none, none, none, none, none, none, none, none, none, none, none, none, none, none, none]) ?_ ?_
  rotate_left
  · refine i_loop (fun i : Nat => [none, none, none, none, none, none, some (.int .u64 (accN kn ((fieldsOf t a).take i) : Nat)), none, none, none, none, none, none, none, none, some (v5), some (.int .i64 5), some (.int .i64 (i : Nat)), none, none, none, none, none, none]) (fun i H => Heap.le h5 H ∧ i ≤ 5) (fun i => 5 - i) 0 (by try simp only [Pe, and_true, true_and, and_self]; simp [accN]) ⟨Heap.le.refl h5, by omega⟩ ?_
    rintro i H ⟨hle, hi⟩
    have RH := (hS5.le hle).rules 2 (fun _ => rfl) (0, 0)
    rw [h5l] at RH
    try simp (disch := first | omega | (simp only [PL]; omega)) only [PS, P1, P2, P3, P4, P5, P6, P7, P8, PA, PB, PC, Nat.reduceAdd, Nat.reduceSub, Nat.reduceMul, Nat.reduceLeDiff, Nat.reduceEqDiff, Nat.succ_ne_self, reduceCtorEq, Int.reduceToNat, Int.cast_ofNat_Int, Int.reduceEq, Int.reduceNe, Int.reduceLT, Int.reduceLE]
    refine i_cond (fun c => ?_) (fun c => ?_)
    rotate_left
    · have : i = 5 := by omega
      subst this
      rw [List.take_of_length_le (by omega)]
      try simp (disch := first | omega | (simp only [PL]; omega)) only [PS, P1, P2, P3, P4, P5, P6, P7, P8, PA, PB, PC, Nat.reduceAdd, Nat.reduceSub, Nat.reduceMul, Nat.reduceLeDiff, Nat.reduceEqDiff, Nat.succ_ne_self, reduceCtorEq, Int.reduceToNat, Int.cast_ofNat_Int, Int.reduceEq, Int.reduceNe, Int.reduceLT, Int.reduceLE]
      exact k_meet _ (by try simp only [Pe, and_true, true_and, and_self]) ⟨hle05.trans hle, rfl⟩
    have hi2 : i < 5 := by omega
    have hwi : IntKind.i64.wrap ((i : Int) + 1) = ((i + 1 : Nat) : Int) := by rw [w64 (by omega) (by omega)]; omega
    have hq := hfl _ (getD_mem (0, 0) (show i < (fieldsOf t a).length by omega))
    have hsn := take_succ_d (0, 0) (show i < (fieldsOf t a).length by omega)
    have hacc := accN_lt hk256 (l := (fieldsOf t a).take i) fun q hq => hfl q (List.mem_of_mem_take hq)
    have hacc2 := accN_lt hk256 (l := (fieldsOf t a).take (i + 1)) fun q hq => hfl q (List.mem_of_mem_take hq)
    have hwt : widths ((fieldsOf t a).take (i + 1)) ≤ 56 := by
      have e : widths (fieldsOf t a) = widths ((fieldsOf t a).take (i + 1)) + widths ((fieldsOf t a).drop (i + 1)) := by
        conv => lhs; rw [← List.take_append_drop (i + 1) (fieldsOf t a)]
        generalize (fieldsOf t a).take (i + 1) = x
        generalize (fieldsOf t a).drop (i + 1) = y
        induction y using snoc_ind with
        | h0 => simp [widths]
        | hs y q ih => rw [← List.append_assoc, widths_snoc, ih, widths_snoc, Nat.add_assoc]
      omega
    have hb64 : accN kn ((fieldsOf t a).take (i + 1)) < 2 ^ 64 := Nat.lt_of_lt_of_le hacc2 (Nat.pow_le_pow_right (by omega) (by omega))
    rw [hsn, accN_snoc] at hb64
    rw [hsn, widths_snoc] at hwt
    have hacs : accN kn ((fieldsOf t a).take (i + 1)) = accN kn ((fieldsOf t a).take i) * 2 ^ ((fieldsOf t a).getD i (0, 0)).1 + ((fieldsOf t a).getD i (0, 0)).2 := by rw [hsn, accN_snoc]
    generalize hqe : (fieldsOf t a).getD i (0, 0) = q at *
    generalize hac : accN kn ((fieldsOf t a).take i) = ac at *
    have hshl := fun k' => shl_nat k' ac q.1 (by omega) (by omega)
    have hq2 : q.2 < 2 ^ 64 := by omega
    have hcv : IntKind.u64.wrap ((q.2 : Nat) : Int) = (q.2 : Nat) := wrap_u64 _ hq2
    have hor := or_u64 (ac * 2 ^ q.1) q.2 (by omega) hq2
    rw [or_low hq] at hor
    try simp (disch := first | omega | (simp only [PL]; omega)) only [PS, P1, P2, P3, P4, P5, P6, P7, P8, PA, PB, PC, Nat.reduceAdd, Nat.reduceSub, Nat.reduceMul, Nat.reduceLeDiff, Nat.reduceEqDiff, Nat.succ_ne_self, reduceCtorEq, Int.reduceToNat, Int.cast_ofNat_Int, Int.reduceEq, Int.reduceNe, Int.reduceLT, Int.reduceLE, RH, hqe, encN2]
    refine i_newO fun b H1 hle1 hb ho => ?_
    try simp (disch := first | omega | (simp only [PL]; omega)) only [PS, P1, P2, P3, P4, P5, P6, P7, P8, PA, PB, PC, Nat.reduceAdd, Nat.reduceSub, Nat.reduceMul, Nat.reduceLeDiff, Nat.reduceEqDiff, Nat.succ_ne_self, reduceCtorEq, Int.reduceToNat, Int.cast_ofNat_Int, Int.reduceEq, Int.reduceNe, Int.reduceLT, Int.reduceLE]
    refine i_st (ho.le (fr_le H H1)) 0 2 rfl rfl (by omega) (Nat.le_refl 2) fun o hob _ => ?_
    have hob2 : objAt (H1.set b o) ⟨b, 0, none⟩ [.int .i64 (q.1 : Nat), .int .i64 (q.2 : Nat)] := hob H1 rfl
    have hle2 : Heap.le H (H1.set b o) := but.le (b := b) hle1 hb fun x hx => Heap.set_ne hx
    generalize H1.set b o = H2 at *
    have B0 : H2.cell ⟨b, 0, none⟩ = some (.int .i64 (q.1 : Nat)) := hob2.rules.2.1 (by simp)
    have B1 : H2.cell ((⟨b, 0, none⟩ : Addr).add 1) = some (.int .i64 (q.2 : Nat)) := hob2.rules.1 1 (by simp)
    have haa0 : ∀ h (k : IntKind), o2V h (.aadr 2 1) (.v (.pointer (some ⟨b, 0, none⟩))) (.v (.int k 0)) = some (.v (.pointer (some ⟨b, 0, none⟩))) := fun h k => rfl
    have haa1 : ∀ h (k : IntKind), o2V h (.aadr 2 1) (.v (.pointer (some ⟨b, 0, none⟩))) (.v (.int k 1)) = some (.v (.pointer (some ((⟨b, 0, none⟩ : Addr).add 1)))) := fun h k => rfl
    try simp (disch := first | omega | (simp only [PL]; omega)) only [PS, P1, P2, P3, P4, P5, P6, P7, P8, PA, PB, PC, Nat.reduceAdd, Nat.reduceSub, Nat.reduceMul, Nat.reduceLeDiff, Nat.reduceEqDiff, Nat.succ_ne_self, reduceCtorEq, Int.reduceToNat, Int.cast_ofNat_Int, Int.reduceEq, Int.reduceNe, Int.reduceLT, Int.reduceLE, haa0, haa1, B0, B1, hshl, hcv, hor, hwi]
    exact k_loop (i + 1) (by omega) (by rw [hacs]; try simp only [Pe, and_true, true_and, and_self]) ⟨hle.trans hle2, by omega⟩
  rintro env H ⟨hle, rfl⟩
  rw [← hvb]
  generalize hBe : tagBits t a = B at *
  have hvl := valB_lt B
  rw [hBl] at hvl
  try simp (disch := first | omega | (simp only [PL]; omega)) only [PS, P1, P2, P3, P4, P5, P6, P7, P8, PA, PB, PC, Nat.reduceAdd, Nat.reduceSub, Nat.reduceMul, Nat.reduceLeDiff, Nat.reduceEqDiff, Nat.succ_ne_self, reduceCtorEq, Int.reduceToNat, Int.cast_ofNat_Int, Int.reduceEq, Int.reduceNe, Int.reduceLT, Int.reduceLE]
  refine i_loop (fun x : Nat × Value => [none, none, none, none, none, none, some (.int .u64 (valB B : Nat)), none, some (x.2), some (.int .i64 (56 - 8 * (x.1 : Nat))), none, none, none, none, none, none, none, none, none, none, none, none, none, none]) (fun x H2 => x.1 ≤ 8 ∧ OwnS encB 1 H H2 x.2 ((packB B).take x.1)) (fun x => 8 - x.1) (0, .slice none 0 0) (by dsimp only; try simp only [Pe, and_true, true_and, and_self]; simp) ⟨by dsimp only; omega, by simpa using OwnS.nil (Heap.le.refl H)⟩ ?_
  rintro ⟨j, v⟩ H2 ⟨hj, ho⟩
  dsimp only at hj ho ⊢
  try simp (disch := first | omega | (simp only [PL]; omega)) only [PS, P1, P2, P3, P4, P5, P6, P7, P8, PA, PB, PC, Nat.reduceAdd, Nat.reduceSub, Nat.reduceMul, Nat.reduceLeDiff, Nat.reduceEqDiff, Nat.succ_ne_self, reduceCtorEq, Int.reduceToNat, Int.cast_ofNat_Int, Int.reduceEq, Int.reduceNe, Int.reduceLT, Int.reduceLE]
  refine i_cond (fun c => ?_) (fun c => ?_)
  rotate_left
  · have : j = 8 := by omega
    subst this
    rw [List.take_of_length_le (by rw [packB_len]; omega)] at ho
    try simp (disch := first | omega | (simp only [PL]; omega)) only [PS, P1, P2, P3, P4, P5, P6, P7, P8, PA, PB, PC, Nat.reduceAdd, Nat.reduceSub, Nat.reduceMul, Nat.reduceLeDiff, Nat.reduceEqDiff, Nat.succ_ne_self, reduceCtorEq, Int.reduceToNat, Int.cast_ofNat_Int, Int.reduceEq, Int.reduceNe, Int.reduceLT, Int.reduceLE, (ho.sl encB_len).b2s]
    exact hK H2 (hle.trans ho.1)
  have hj2 : j < 8 := by omega
  have hwj : IntKind.i64.wrap (56 - 8 * (j : Int) - 8) = 56 - 8 * ((j + 1 : Nat) : Int) := by rw [w64 (by omega) (by omega)]; omega
  have hjn : (56 : Int) - 8 * (j : Int) = ((56 - 8 * j : Nat) : Int) := by omega
  have hshr := fun k' => shr_nat .u64 k' (valB B) (56 - 8 * j) (by simp [IntKind.bits]; omega)
  obtain ⟨y, hy⟩ : ∃ y : UInt8, y = UInt8.ofNat (valB B / 2 ^ (56 - 8 * j) % 256) := ⟨_, rfl⟩
  have hcv : IntKind.u8.wrap ((valB B / 2 ^ (56 - 8 * j) : Nat) : Int) = ((y.toNat : Nat) : Int) := by rw [hy, w8']; simp
  have O1 := ho.slb.1.one
  rw [hjn] at hwj ⊢
  try simp (disch := first | omega | (simp only [PL]; omega)) only [PS, P1, P2, P3, P4, P5, P6, P7, P8, PA, PB, PC, Nat.reduceAdd, Nat.reduceSub, Nat.reduceMul, Nat.reduceLeDiff, Nat.reduceEqDiff, Nat.succ_ne_self, reduceCtorEq, Int.reduceToNat, Int.cast_ofNat_Int, Int.reduceEq, Int.reduceNe, Int.reduceLT, Int.reduceLE, hshr, hcv, O1.1, O1.2]
  refine i_bslB encB 1 encB_len [y] rfl rfl (by simp [maxLen]) fun x1 b1 H3 hle3 hb1 hx1 hS1 => ?_
  have O2 := hS1.one
  try simp (disch := first | omega | (simp only [PL]; omega)) only [PS, P1, P2, P3, P4, P5, P6, P7, P8, PA, PB, PC, Nat.reduceAdd, Nat.reduceSub, Nat.reduceMul, Nat.reduceLeDiff, Nat.reduceEqDiff, Nat.succ_ne_self, reduceCtorEq, Int.reduceToNat, Int.cast_ofNat_Int, Int.reduceEq, Int.reduceNe, Int.reduceLT, Int.reduceLE, O2.1, O2.2]
  refine i_app1 (enc := encB) (sz := 1) (l := (packB B).take j) (l' := [y]) encB_len (by simp [encB, one]) (ho.le hle3) (SlB.sl encB_len (hS1.le (fr_le _ _))) (by simp [packB_len]; omega) fun v2 H4 ho4 => ?_
  have O3 := ho4.slb.1.one
  try simp (disch := first | omega | (simp only [PL]; omega)) only [PS, P1, P2, P3, P4, P5, P6, P7, P8, PA, PB, PC, Nat.reduceAdd, Nat.reduceSub, Nat.reduceMul, Nat.reduceLeDiff, Nat.reduceEqDiff, Nat.succ_ne_self, reduceCtorEq, Int.reduceToNat, Int.cast_ofNat_Int, Int.reduceEq, Int.reduceNe, Int.reduceLT, Int.reduceLE, hwj]
  refine k_loop (j + 1, v2) (by dsimp only; omega) (by dsimp only; try simp only [Pe, and_true, true_and, and_self]) ⟨by dsimp only; omega, ?_⟩
  dsimp only
  rw [take_succ_d 0 (by rw [packB_len]; omega), packB_num hBl hj2, ← hy]
  exact ho4
end Go.Cw
namespace Go.Cw
open Go

/-- strconv.Itoa, of numbers not below 0; T: the library's tables -/
def S176n (T : Heap) : Spec := fun args h K => ∃ n : Nat, args = [.int .i64 (n : Nat)] ∧ n ≤ 9223372036854775807 ∧ Heap.le T h ∧ ∀ h', Heap.le h h' → K (.string (str (dec n))) h'
/-- strings.Repeat of a nought -/
def S193 : Spec := fun args h K => ∃ k : Nat, args = [.string (str [48]), .int .i64 (k : Nat)] ∧ k ≤ 100 ∧ ∀ h', Heap.le h h' → K (.string (str (List.replicate k 48))) h'
def S178 (T : Heap) : Spec := fun args h K => ∃ n w : Nat, args = [.int .i64 (n : Nat), .int .i64 (w : Nat)] ∧ n ≤ 9223372036854775807 ∧ w ≤ 100 ∧ Heap.le T h ∧ ∀ h', Heap.le h h' → K (.string (str (padD n w))) h'
theorem F178_ok {N : Num} {Γ : Ctx} [GoodC Γ] {T : Heap} (H176 : Sat (S176n T) (Γ 176)) (H193 : Sat S193 (Γ 193)) : Sat (S178 T) (SF N Γ F178) := by
  rintro _ h K ⟨n, w, rfl, hn, hw, hT, hK⟩
  refine i_fun rfl ?_
  simp only [F178, env0, List.map, List.length, List.replicate, List.cons_append, List.nil_append, Nat.reduceSub, Nat.reduceAdd]
  have hdl := dec_len 19 (n := n) (by omega) (by omega)
  try simp (disch := first | omega | (simp only [PL]; omega)) only [PS, P1, P2, P3, P4, P5, P6, P7, P8, PA, PB, PC, Nat.reduceAdd, Nat.reduceSub, Nat.reduceMul, Nat.reduceLeDiff, Nat.reduceEqDiff, Nat.succ_ne_self, reduceCtorEq, Int.reduceToNat, Int.cast_ofNat_Int, Int.reduceEq, Int.reduceNe, Int.reduceLT, Int.reduceLE]
  refine i_call H176 ⟨n, rfl, hn, hT, fun h1 hle1 => ?_⟩
  have hw1 : IntKind.i64.wrap ((w : Int) - ((dec n).length : Nat)) = (w : Int) - ((dec n).length : Nat) := w64 (by omega) (by omega)
  have hmx : max (0 : Int) ((w : Int) - ((dec n).length : Nat)) = ((w - (dec n).length : Nat) : Int) := by omega
  try simp (disch := first | omega | (simp only [PL]; omega)) only [PS, P1, P2, P3, P4, P5, P6, P7, P8, PA, PB, PC, Nat.reduceAdd, Nat.reduceSub, Nat.reduceMul, Nat.reduceLeDiff, Nat.reduceEqDiff, Nat.succ_ne_self, reduceCtorEq, Int.reduceToNat, Int.cast_ofNat_Int, Int.reduceEq, Int.reduceNe, Int.reduceLT, Int.reduceLE, hw1, hmx]
  refine i_call H193 ⟨w - (dec n).length, rfl, by omega, fun h2 hle2 => ?_⟩
  have hr : (List.replicate (w - (dec n).length) (48 : UInt8)).length = w - (dec n).length := by simp
  have := hK h2 (hle1.trans hle2)
  unfold padD at this
  generalize List.replicate (w - (dec n).length) (48 : UInt8) = r at *
  try simp (disch := first | omega | (simp only [PL]; omega)) only [PS, P1, P2, P3, P4, P5, P6, P7, P8, PA, PB, PC, Nat.reduceAdd, Nat.reduceSub, Nat.reduceMul, Nat.reduceLeDiff, Nat.reduceEqDiff, Nat.succ_ne_self, reduceCtorEq, Int.reduceToNat, Int.cast_ofNat_Int, Int.reduceEq, Int.reduceNe, Int.reduceLT, Int.reduceLE]
  exact this
theorem kname_len (k : Int) : (kname k).length ≤ 6 := by
  unfold kname
  split
  · decide
  · split <;> decide
theorem padD_len' (n w : Nat) : (padD n w).length ≤ w + (dec n).length := by
  unfold padD
  rw [List.length_append, List.length_replicate]; omega
def S163 (T : Heap) (N : Num) : Spec := fun args h K => ∃ t : Tg, args = [aggT t] ∧ Heap.le T h ∧ (t.bad → ∀ h', Heap.le h h' → K (.tuple #[.string (str []), errV N 1]) h') ∧ (¬ t.bad → ∀ h', Heap.le h h' → K (.tuple #[.string (str (textOf t)), .nilIface]) h')
theorem F163_ok {N : Num} {Γ : Ctx} [GoodC Γ] {T : Heap} (H108 : Sat (S108 N) (Γ 108)) (H107 : Sat S107 (Γ 107)) (H177 : Sat S177 (Γ 177)) (H176 : Sat (S176n T) (Γ 176)) (H178 : Sat (S178 T) (Γ 178)) : Sat (S163 T N) (SF N Γ F163) := by
  rintro _ h K ⟨t, rfl, hT, hK1, hK2⟩
  refine i_fun rfl ?_
  simp only [F163, env0, List.map, List.length, List.replicate, List.cons_append, List.nil_append, Nat.reduceSub, Nat.reduceAdd, aggT]
  try simp (disch := first | omega | (simp only [PL]; omega)) only [PS, P1, P2, P3, P4, P5, P6, P7, P8, PA, PB, PC, Nat.reduceAdd, Nat.reduceSub, Nat.reduceMul, Nat.reduceLeDiff, Nat.reduceEqDiff, Nat.succ_ne_self, reduceCtorEq, Int.reduceToNat, Int.cast_ofNat_Int, Int.reduceEq, Int.reduceNe, Int.reduceLT, Int.reduceLE]
  refine i_call H108 ⟨t, rfl, fun h1 hle1 => ?_⟩
  by_cases hb : t.bad
  · rw [fault_bad hb]
    try simp (disch := first | omega | (simp only [PL]; omega)) only [PS, P1, P2, P3, P4, P5, P6, P7, P8, PA, PB, PC, Nat.reduceAdd, Nat.reduceSub, Nat.reduceMul, Nat.reduceLeDiff, Nat.reduceEqDiff, Nat.succ_ne_self, reduceCtorEq, Int.reduceToNat, Int.cast_ofNat_Int, Int.reduceEq, Int.reduceNe, Int.reduceLT, Int.reduceLE, errV_succ]
    exact hK1 hb h1 hle1
  rw [fault_ok hb]
  have hK := hK2 hb
  clear hK1 hK2
  obtain ⟨a, ha, k1, k2, f1, f2, s1, s2, c1, c2, r1, r2⟩ := Tg.good hb
  have hpa := partsOf_some ha
  have e : textOf t = textW t a := by unfold textOf; rw [ha]; rfl
  rw [e] at hK
  unfold textW textA at hK
  try simp (disch := first | omega | (simp only [PL]; omega)) only [PS, P1, P2, P3, P4, P5, P6, P7, P8, PA, PB, PC, Nat.reduceAdd, Nat.reduceSub, Nat.reduceMul, Nat.reduceLeDiff, Nat.reduceEqDiff, Nat.succ_ne_self, reduceCtorEq, Int.reduceToNat, Int.cast_ofNat_Int, Int.reduceEq, Int.reduceNe, Int.reduceLT, Int.reduceLE, errV_zero]
  refine i_call H107 ⟨t.part, rfl, fun h2 hle2 => ?_⟩
  simp only [paV, ha, Option.elim, Pa.enc]
  obtain ⟨fn, hfn⟩ : ∃ n : Nat, t.filter = n := ⟨t.filter.toNat, by omega⟩
  obtain ⟨cn, hcn⟩ : ∃ n : Nat, t.company = n := ⟨t.company.toNat, by omega⟩
  obtain ⟨rn, hrn⟩ : ∃ n : Nat, t.ref = n := ⟨t.ref.toNat, by omega⟩
  obtain ⟨sn, hsn⟩ : ∃ n : Nat, t.serial = n := ⟨t.serial.toNat, by omega⟩
  have p10 : ∀ k, k ≤ 6 → 10 ^ k ≤ 10 ^ 6 := fun k hk => Nat.pow_le_pow_right (by omega) hk
  have p10c := p10 a.cd (by omega)
  have p10r := p10 a.rd (by omega)
  rw [hfn, hcn, hrn, hsn]
  simp only [hfn, hcn, hrn, hsn, Int.toNat_natCast] at hK
  have l1 := kname_len t.kind
  have l2 := dec_len 19 (n := fn) (by omega) (by omega)
  have l3 := padD_len' cn a.cd
  have l3' := dec_len 19 (n := cn) (by omega) (by omega)
  have l4 := padD_len' rn a.rd
  have l4' := dec_len 19 (n := rn) (by omega) (by omega)
  have l5 := dec_len 19 (n := sn) (by omega) (by omega)
  try simp (disch := first | omega | (simp only [PL]; omega)) only [PS, P1, P2, P3, P4, P5, P6, P7, P8, PA, PB, PC, Nat.reduceAdd, Nat.reduceSub, Nat.reduceMul, Nat.reduceLeDiff, Nat.reduceEqDiff, Nat.succ_ne_self, reduceCtorEq, Int.reduceToNat, Int.cast_ofNat_Int, Int.reduceEq, Int.reduceNe, Int.reduceLT, Int.reduceLE]
  refine i_call H177 ⟨t.kind, rfl, k1, k2, ?_⟩
  refine i_le (le_one (Heap.le.refl _)) ?_
  have hT2 := hT.trans (hle1.trans hle2)
  try simp (disch := first | omega | (simp only [PL]; omega)) only [PS, P1, P2, P3, P4, P5, P6, P7, P8, PA, PB, PC, Nat.reduceAdd, Nat.reduceSub, Nat.reduceMul, Nat.reduceLeDiff, Nat.reduceEqDiff, Nat.succ_ne_self, reduceCtorEq, Int.reduceToNat, Int.cast_ofNat_Int, Int.reduceEq, Int.reduceNe, Int.reduceLT, Int.reduceLE]
  refine i_call H176 ⟨fn, rfl, by omega, hT2, fun h3 hle3 => ?_⟩
  try simp (disch := first | omega | (simp only [PL]; omega)) only [PS, P1, P2, P3, P4, P5, P6, P7, P8, PA, PB, PC, Nat.reduceAdd, Nat.reduceSub, Nat.reduceMul, Nat.reduceLeDiff, Nat.reduceEqDiff, Nat.succ_ne_self, reduceCtorEq, Int.reduceToNat, Int.cast_ofNat_Int, Int.reduceEq, Int.reduceNe, Int.reduceLT, Int.reduceLE]
  refine i_lew (le_one hle3) ?_
  try simp (disch := first | omega | (simp only [PL]; omega)) only [PS, P1, P2, P3, P4, P5, P6, P7, P8, PA, PB, PC, Nat.reduceAdd, Nat.reduceSub, Nat.reduceMul, Nat.reduceLeDiff, Nat.reduceEqDiff, Nat.succ_ne_self, reduceCtorEq, Int.reduceToNat, Int.cast_ofNat_Int, Int.reduceEq, Int.reduceNe, Int.reduceLT, Int.reduceLE]
  refine i_call H178 ⟨cn, a.cd, rfl, by omega, by omega, hT2.trans hle3, fun h4 hle4 => ?_⟩
  try simp (disch := first | omega | (simp only [PL]; omega)) only [PS, P1, P2, P3, P4, P5, P6, P7, P8, PA, PB, PC, Nat.reduceAdd, Nat.reduceSub, Nat.reduceMul, Nat.reduceLeDiff, Nat.reduceEqDiff, Nat.succ_ne_self, reduceCtorEq, Int.reduceToNat, Int.cast_ofNat_Int, Int.reduceEq, Int.reduceNe, Int.reduceLT, Int.reduceLE]
  refine i_lew (le_one (hle3.trans hle4)) ?_
  try simp (disch := first | omega | (simp only [PL]; omega)) only [PS, P1, P2, P3, P4, P5, P6, P7, P8, PA, PB, PC, Nat.reduceAdd, Nat.reduceSub, Nat.reduceMul, Nat.reduceLeDiff, Nat.reduceEqDiff, Nat.succ_ne_self, reduceCtorEq, Int.reduceToNat, Int.cast_ofNat_Int, Int.reduceEq, Int.reduceNe, Int.reduceLT, Int.reduceLE]
  refine i_call H178 ⟨rn, a.rd, rfl, by omega, by omega, hT2.trans (hle3.trans hle4), fun h5 hle5 => ?_⟩
  try simp (disch := first | omega | (simp only [PL]; omega)) only [PS, P1, P2, P3, P4, P5, P6, P7, P8, PA, PB, PC, Nat.reduceAdd, Nat.reduceSub, Nat.reduceMul, Nat.reduceLeDiff, Nat.reduceEqDiff, Nat.succ_ne_self, reduceCtorEq, Int.reduceToNat, Int.cast_ofNat_Int, Int.reduceEq, Int.reduceNe, Int.reduceLT, Int.reduceLE]
  refine i_lew (le_one (hle3.trans (hle4.trans hle5))) ?_
  try simp (disch := first | omega | (simp only [PL]; omega)) only [PS, P1, P2, P3, P4, P5, P6, P7, P8, PA, PB, PC, Nat.reduceAdd, Nat.reduceSub, Nat.reduceMul, Nat.reduceLeDiff, Nat.reduceEqDiff, Nat.succ_ne_self, reduceCtorEq, Int.reduceToNat, Int.cast_ofNat_Int, Int.reduceEq, Int.reduceNe, Int.reduceLT, Int.reduceLE]
  refine i_call H176 ⟨sn, rfl, by omega, hT2.trans (hle3.trans (hle4.trans hle5)), fun h6 hle6 => ?_⟩
  have := hK h6 (hle1.trans (hle2.trans (hle3.trans (hle4.trans (hle5.trans hle6)))))
  try simp (disch := first | omega | (simp only [PL]; omega)) only [PS, P1, P2, P3, P4, P5, P6, P7, P8, PA, PB, PC, Nat.reduceAdd, Nat.reduceSub, Nat.reduceMul, Nat.reduceLeDiff, Nat.reduceEqDiff, Nat.succ_ne_self, reduceCtorEq, Int.reduceToNat, Int.cast_ofNat_Int, Int.reduceEq, Int.reduceNe, Int.reduceLT, Int.reduceLE]
  simp only [List.append_assoc, List.cons_append, List.nil_append]
  exact this
def S164 : Spec := fun args h K => ∃ t a, args = [aggT t] ∧ partsOf t.part = some a ∧ (0 ≤ t.filter ∧ t.filter ≤ 9223372036854775807) ∧ (0 ≤ t.company ∧ t.company ≤ 9223372036854775807) ∧ (0 ≤ t.ref ∧ t.ref ≤ 9223372036854775807) ∧ (0 ≤ t.serial ∧ t.serial ≤ 9223372036854775807) ∧ ∀ h', Heap.le h h' → K (.string (str (textOf t))) h'
theorem F164_ok {N : Num} {Γ : Ctx} [GoodC Γ] (H79 : Sat S79 (Γ 79)) (H85 : Sat S85 (Γ 85)) (H179 : Sat S179 (Γ 179)) : Sat S164 (SF N Γ F164) := by
  rintro _ h K ⟨t, a, rfl, ha, hf, hc, hr, hs, hK⟩
  refine i_fun rfl ?_
  simp only [F164, env0, List.map, List.length, List.replicate, List.cons_append, List.nil_append, Nat.reduceSub, Nat.reduceAdd, aggT]
  have hpa := partsOf_some ha
  have e : textOf t = textW t a := by unfold textOf; rw [ha]; rfl
  rw [e] at hK
  unfold textW textA at hK
  try simp (disch := first | omega | (simp only [PL]; omega)) only [PS, P1, P2, P3, P4, P5, P6, P7, P8, PA, PB, PC, Nat.reduceAdd, Nat.reduceSub, Nat.reduceMul, Nat.reduceLeDiff, Nat.reduceEqDiff, Nat.succ_ne_self, reduceCtorEq, Int.reduceToNat, Int.cast_ofNat_Int, Int.reduceEq, Int.reduceNe, Int.reduceLT, Int.reduceLE]
  refine i_call H79 ⟨t.part, rfl, ?_⟩
  simp only [paV, ha, Option.elim, Pa.enc]
  try simp (disch := first | omega | (simp only [PL]; omega)) only [PS, P1, P2, P3, P4, P5, P6, P7, P8, PA, PB, PC, Nat.reduceAdd, Nat.reduceSub, Nat.reduceMul, Nat.reduceLeDiff, Nat.reduceEqDiff, Nat.succ_ne_self, reduceCtorEq, Int.reduceToNat, Int.cast_ofNat_Int, Int.reduceEq, Int.reduceNe, Int.reduceLT, Int.reduceLE]
  refine i_newO fun b h1 hle1 hb ho => ?_
  try simp (disch := first | omega | (simp only [PL]; omega)) only [PS, P1, P2, P3, P4, P5, P6, P7, P8, PA, PB, PC, Nat.reduceAdd, Nat.reduceSub, Nat.reduceMul, Nat.reduceLeDiff, Nat.reduceEqDiff, Nat.succ_ne_self, reduceCtorEq, Int.reduceToNat, Int.cast_ofNat_Int, Int.reduceEq, Int.reduceNe, Int.reduceLT, Int.reduceLE]
  refine i_st (ho.le (fr_le h h1)) 0 4 rfl rfl (by omega) (Nat.le_refl 4) fun o hob _ => ?_
  have hob2 : objAt (h1.set b o) ⟨b, 0, none⟩ [.int .i64 a.cb, .int .i64 a.cd, .int .i64 a.rb, .int .i64 a.rd] := hob h1 rfl
  have hle2 : Heap.le h (h1.set b o) := but.le (b := b) hle1 hb fun x hx => Heap.set_ne hx
  generalize h1.set b o = h2 at *
  have B1 : h2.cell ((⟨b, 0, none⟩ : Addr).add 1) = some (.int .i64 a.cd) := hob2.rules.1 1 (by simp)
  have B3 : h2.cell ((⟨b, 0, none⟩ : Addr).add 3) = some (.int .i64 a.rd) := hob2.rules.1 3 (by simp)
  have haa1 : ∀ h (k : IntKind), o2V h (.aadr 4 1) (.v (.pointer (some ⟨b, 0, none⟩))) (.v (.int k 1)) = some (.v (.pointer (some ((⟨b, 0, none⟩ : Addr).add 1)))) := fun h k => rfl
  have haa3 : ∀ h (k : IntKind), o2V h (.aadr 4 1) (.v (.pointer (some ⟨b, 0, none⟩))) (.v (.int k 3)) = some (.v (.pointer (some ((⟨b, 0, none⟩ : Addr).add 3)))) := fun h k => rfl
  obtain ⟨fn, hfn⟩ : ∃ n : Nat, t.filter = n := ⟨t.filter.toNat, by omega⟩
  obtain ⟨cn, hcn⟩ : ∃ n : Nat, t.company = n := ⟨t.company.toNat, by omega⟩
  obtain ⟨rn, hrn⟩ : ∃ n : Nat, t.ref = n := ⟨t.ref.toNat, by omega⟩
  obtain ⟨sn, hsn⟩ : ∃ n : Nat, t.serial = n := ⟨t.serial.toNat, by omega⟩
  rw [hfn] at hf; rw [hcn] at hc; rw [hrn] at hr; rw [hsn] at hs
  rw [hfn, hcn, hrn, hsn]
  simp only [hfn, hcn, hrn, hsn, Int.toNat_natCast] at hK
  have l1 := kname_len t.kind
  have l2 := dec_len 19 (n := fn) (by omega) (by omega)
  have l3 := padD_len' cn a.cd
  have l3' := dec_len 19 (n := cn) (by omega) (by omega)
  have l4 := padD_len' rn a.rd
  have l4' := dec_len 19 (n := rn) (by omega) (by omega)
  have l5 := dec_len 19 (n := sn) (by omega) (by omega)
  have hkn : (if t.kind = 3 then [112, 97, 108, 108, 101, 116] else if t.kind = 2 then [99, 97, 115, 101] else [105, 116, 101, 109] : List UInt8) = kname t.kind := by
    unfold kname
    by_cases h2 : t.kind = 2
    · rw [if_neg (by omega), if_pos h2, if_pos h2]
    · by_cases h3 : t.kind = 3
      · rw [if_pos h3, if_neg h2, if_pos h3]
      · rw [if_neg h3, if_neg h2, if_neg h2, if_neg h3]
  try simp (disch := first | omega | (simp only [PL]; omega)) only [PS, P1, P2, P3, P4, P5, P6, P7, P8, PA, PB, PC, Nat.reduceAdd, Nat.reduceSub, Nat.reduceMul, Nat.reduceLeDiff, Nat.reduceEqDiff, Nat.succ_ne_self, reduceCtorEq, Int.reduceToNat, Int.cast_ofNat_Int, Int.reduceEq, Int.reduceNe, Int.reduceLT, Int.reduceLE]
  refine i_meet_cond (fun env H => H = h2 ∧ env = [some (.agg #[.int .i64 t.kind, .int .i64 fn, .int .i64 t.part, .int .i64 cn, .int .i64 rn, .int .i64 sn]), some (.agg #[.int .i64 t.kind, .int .i64 fn, .int .i64 t.part, .int .i64 cn, .int .i64 rn, .int .i64 sn]), none, some (.pointer (some ⟨b, 0, none⟩)), some (.string (str (if t.kind = 2 then [99, 97, 115, 101] else [105, 116, 101, 109]))), none, none, none, none, none, none, none, none, none, none, none, none, none, none, none, none, none, none]) ?_ ?_
  rotate_left
  · refine i_cond (fun c => ?_) (fun c => ?_)
    · rw [if_pos c]
      try simp (disch := first | omega | (simp only [PL]; omega)) only [PS, P1, P2, P3, P4, P5, P6, P7, P8, PA, PB, PC, Nat.reduceAdd, Nat.reduceSub, Nat.reduceMul, Nat.reduceLeDiff, Nat.reduceEqDiff, Nat.succ_ne_self, reduceCtorEq, Int.reduceToNat, Int.cast_ofNat_Int, Int.reduceEq, Int.reduceNe, Int.reduceLT, Int.reduceLE]
      exact k_meet _ (by try simp only [Pe, and_true, true_and, and_self]) ⟨rfl, rfl⟩
    · rw [if_neg c]
      try simp (disch := first | omega | (simp only [PL]; omega)) only [PS, P1, P2, P3, P4, P5, P6, P7, P8, PA, PB, PC, Nat.reduceAdd, Nat.reduceSub, Nat.reduceMul, Nat.reduceLeDiff, Nat.reduceEqDiff, Nat.succ_ne_self, reduceCtorEq, Int.reduceToNat, Int.cast_ofNat_Int, Int.reduceEq, Int.reduceNe, Int.reduceLT, Int.reduceLE]
      exact k_meet _ (by try simp only [Pe, and_true, true_and, and_self]) ⟨rfl, rfl⟩
  rintro env H ⟨rfl, rfl⟩
  try simp (disch := first | omega | (simp only [PL]; omega)) only [PS, P1, P2, P3, P4, P5, P6, P7, P8, PA, PB, PC, Nat.reduceAdd, Nat.reduceSub, Nat.reduceMul, Nat.reduceLeDiff, Nat.reduceEqDiff, Nat.succ_ne_self, reduceCtorEq, Int.reduceToNat, Int.cast_ofNat_Int, Int.reduceEq, Int.reduceNe, Int.reduceLT, Int.reduceLE]
  refine i_meet_cond (fun env H2 => H2 = H ∧ env = [none, some (.agg #[.int .i64 t.kind, .int .i64 fn, .int .i64 t.part, .int .i64 cn, .int .i64 rn, .int .i64 sn]), none, some (.pointer (some ⟨b, 0, none⟩)), some (.string (str (kname t.kind))), none, none, none, none, none, none, none, none, none, none, none, none, none, none, none, none, none, none]) ?_ ?_
  rotate_left
  · rw [← hkn]
    refine i_cond (fun c => ?_) (fun c => ?_)
    · rw [if_pos c]
      try simp (disch := first | omega | (simp only [PL]; omega)) only [PS, P1, P2, P3, P4, P5, P6, P7, P8, PA, PB, PC, Nat.reduceAdd, Nat.reduceSub, Nat.reduceMul, Nat.reduceLeDiff, Nat.reduceEqDiff, Nat.succ_ne_self, reduceCtorEq, Int.reduceToNat, Int.cast_ofNat_Int, Int.reduceEq, Int.reduceNe, Int.reduceLT, Int.reduceLE]
      exact k_meet _ (by try simp only [Pe, and_true, true_and, and_self]) ⟨rfl, rfl⟩
    · rw [if_neg c]
      try simp (disch := first | omega | (simp only [PL]; omega)) only [PS, P1, P2, P3, P4, P5, P6, P7, P8, PA, PB, PC, Nat.reduceAdd, Nat.reduceSub, Nat.reduceMul, Nat.reduceLeDiff, Nat.reduceEqDiff, Nat.succ_ne_self, reduceCtorEq, Int.reduceToNat, Int.cast_ofNat_Int, Int.reduceEq, Int.reduceNe, Int.reduceLT, Int.reduceLE]
      exact k_meet _ (by try simp only [Pe, and_true, true_and, and_self]) ⟨rfl, rfl⟩
  rintro env H ⟨rfl, rfl⟩
  try simp (disch := first | omega | (simp only [PL]; omega)) only [PS, P1, P2, P3, P4, P5, P6, P7, P8, PA, PB, PC, Nat.reduceAdd, Nat.reduceSub, Nat.reduceMul, Nat.reduceLeDiff, Nat.reduceEqDiff, Nat.succ_ne_self, reduceCtorEq, Int.reduceToNat, Int.cast_ofNat_Int, Int.reduceEq, Int.reduceNe, Int.reduceLT, Int.reduceLE, haa1, haa3, B1, B3]
  refine i_call H85 ⟨fn, rfl, by omega, fun h3 hle3 => ?_⟩
  refine i_le (le_one hle3) ?_
  try simp (disch := first | omega | (simp only [PL]; omega)) only [PS, P1, P2, P3, P4, P5, P6, P7, P8, PA, PB, PC, Nat.reduceAdd, Nat.reduceSub, Nat.reduceMul, Nat.reduceLeDiff, Nat.reduceEqDiff, Nat.succ_ne_self, reduceCtorEq, Int.reduceToNat, Int.cast_ofNat_Int, Int.reduceEq, Int.reduceNe, Int.reduceLT, Int.reduceLE]
  refine i_call H179 ⟨cn, a.cd, rfl, by omega, by omega, fun h4 hle4 => ?_⟩
  try simp (disch := first | omega | (simp only [PL]; omega)) only [PS, P1, P2, P3, P4, P5, P6, P7, P8, PA, PB, PC, Nat.reduceAdd, Nat.reduceSub, Nat.reduceMul, Nat.reduceLeDiff, Nat.reduceEqDiff, Nat.succ_ne_self, reduceCtorEq, Int.reduceToNat, Int.cast_ofNat_Int, Int.reduceEq, Int.reduceNe, Int.reduceLT, Int.reduceLE]
  refine i_lew (le_one (hle3.trans hle4)) ?_
  try simp (disch := first | omega | (simp only [PL]; omega)) only [PS, P1, P2, P3, P4, P5, P6, P7, P8, PA, PB, PC, Nat.reduceAdd, Nat.reduceSub, Nat.reduceMul, Nat.reduceLeDiff, Nat.reduceEqDiff, Nat.succ_ne_self, reduceCtorEq, Int.reduceToNat, Int.cast_ofNat_Int, Int.reduceEq, Int.reduceNe, Int.reduceLT, Int.reduceLE]
  refine i_call H179 ⟨rn, a.rd, rfl, by omega, by omega, fun h5 hle5 => ?_⟩
  try simp (disch := first | omega | (simp only [PL]; omega)) only [PS, P1, P2, P3, P4, P5, P6, P7, P8, PA, PB, PC, Nat.reduceAdd, Nat.reduceSub, Nat.reduceMul, Nat.reduceLeDiff, Nat.reduceEqDiff, Nat.succ_ne_self, reduceCtorEq, Int.reduceToNat, Int.cast_ofNat_Int, Int.reduceEq, Int.reduceNe, Int.reduceLT, Int.reduceLE]
  refine i_lew (le_one (hle3.trans (hle4.trans hle5))) ?_
  try simp (disch := first | omega | (simp only [PL]; omega)) only [PS, P1, P2, P3, P4, P5, P6, P7, P8, PA, PB, PC, Nat.reduceAdd, Nat.reduceSub, Nat.reduceMul, Nat.reduceLeDiff, Nat.reduceEqDiff, Nat.succ_ne_self, reduceCtorEq, Int.reduceToNat, Int.cast_ofNat_Int, Int.reduceEq, Int.reduceNe, Int.reduceLT, Int.reduceLE]
  refine i_call H85 ⟨sn, rfl, by omega, fun h6 hle6 => ?_⟩
  have := hK h6 (hle2.trans (hle3.trans (hle4.trans (hle5.trans hle6))))
  try simp (disch := first | omega | (simp only [PL]; omega)) only [PS, P1, P2, P3, P4, P5, P6, P7, P8, PA, PB, PC, Nat.reduceAdd, Nat.reduceSub, Nat.reduceMul, Nat.reduceLeDiff, Nat.reduceEqDiff, Nat.succ_ne_self, reduceCtorEq, Int.reduceToNat, Int.cast_ofNat_Int, Int.reduceEq, Int.reduceNe, Int.reduceLT, Int.reduceLE]
  simp only [List.append_assoc, List.cons_append, List.nil_append]
  exact this
end Go.Cw
namespace Go.Cw
open Go

/-- strings.Cut and strings.Split, at one byte -/
def S180 (T : Heap) : Spec := fun args h K => ∃ s, ∃ c : UInt8, args = [.string (str s), .string (str [c])] ∧ s.length ≤ 1000000 ∧ Heap.le T h ∧ ∀ h', Heap.le h h' → K (.tuple #[.string (str (cutH c s)), .string (str (cutT c s)), .bool (decide (c ∈ s))]) h'
def S181 (T : Heap) : Spec := fun args h K => ∃ s, ∃ c : UInt8, args = [.string (str s), .string (str [c])] ∧ s.length ≤ 1000000 ∧ Heap.le T h ∧ ∀ v h', OwnS encT 1 h h' v (pcs c s) → K v h'

theorem cutT_len (c : UInt8) (s : List UInt8) : (cutT c s).length ≤ s.length := by
  unfold cutT
  rw [List.length_drop]
  have := (List.dropWhile_sublist (fun x => decide (x ≠ c)) (l := s)).length_le
  omega
theorem pcs_mem_len {c : UInt8} : ∀ {s : List UInt8}, ∀ w ∈ pcs c s, w.length ≤ s.length := by
  intro s
  induction s with
  | nil => intro w hw; simp [pcs] at hw; subst hw; simp
  | cons x r ih =>
    intro w hw
    unfold pcs at hw
    split at hw
    · rw [List.mem_cons] at hw
      rcases hw with rfl | hw
      · simp
      · have := ih w hw; simp; omega
    · split at hw
      · rename_i hp; exact absurd hp (pcs_ne c r)
      · rename_i p q hp
        rw [hp] at ih
        rw [List.mem_cons] at hw
        rcases hw with rfl | hw
        · have := ih p (by simp); simp; omega
        · have := ih w (by simp [hw]); simp; omega
theorem pcs_len (c : UInt8) : ∀ (s : List UInt8), (pcs c s).length ≤ s.length + 1 := by
  intro s
  induction s with
  | nil => simp [pcs]
  | cons x r ih =>
    unfold pcs
    split
    · simp; omega
    · split
      · simp
      · rename_i p q hp; rw [hp] at ih; simp at ih ⊢; omega

/-- the kind that a name is of -/
def kindF (s : List UInt8) : Nat → Nat
  | 0 => 0
  | k + 1 => if kname ((k + 1 : Nat) : Int) = s then k + 1 else kindF s k
theorem kindF_kname {k : Int} (h1 : 1 ≤ k) (h2 : k ≤ 3) : ((kindF (kname k) 3 : Nat) : Int) = k := by
  have hk : k = 1 ∨ k = 2 ∨ k = 3 := by omega
  rcases hk with rfl | rfl | rfl <;> rfl
theorem kindF_le (s : List UInt8) : ∀ k, kindF s k ≤ k := by
  intro k
  induction k with
  | zero => simp [kindF]
  | succ k ih => unfold kindF; split <;> omega
def tagR (s : List UInt8) : Tg := let w := pcs 46 (cutT 58 s); ⟨(kindF (cutH 58 s) 3 : Nat), (numv (w.getD 0 []) : Nat), 6 - ((w.getD 1 []).length : Nat), (numv (w.getD 1 []) : Nat), (numv (w.getD 2 []) : Nat), (numv (w.getD 3 []) : Nat)⟩
theorem dec_numOk {n : Nat} (h : (dec n).length ≤ 8) : numOk (dec n) := ⟨dec_ne n, h, digs_dec n⟩
theorem pad_numOk {n w : Nat} (h : (padD n w).length = w) (hw : w ≤ 8) : numOk (padD n w) := ⟨padD_ne n w, by omega, digs_pad n w⟩
theorem tagR_of {t : Tg} {s : List UInt8} (h : ¬ t.bad) (hs : textOf t = s) : (pcs 46 (cutT 58 s)).length = 4 ∧ (∀ j, j < 4 → numOk ((pcs 46 (cutT 58 s)).getD j [])) ∧ t = tagR s := by
  subst hs
  obtain ⟨a, ha, e1, e2, _, e3, l1, l2, l3, l4, hp, hc6, hr6, n1, n2, n3, n4, k1, k2⟩ := text_read h
  unfold tagR
  rw [e2, e3, e1]
  refine ⟨rfl, fun j hj => ?_, ?_⟩
  · have : j = 0 ∨ j = 1 ∨ j = 2 ∨ j = 3 := by omega
    rcases this with rfl | rfl | rfl | rfl
    · exact dec_numOk l1
    · exact pad_numOk l2 (by omega)
    · exact pad_numOk l3 (by omega)
    · exact dec_numOk l4
  · cases t
    dsimp only at *
    simp only [List.getD_cons_zero, List.getD_cons_succ, Tg.mk.injEq]
    exact ⟨(kindF_kname k1 k2).symm, n1.symm, by rw [l2]; exact hp, n2.symm, n3.symm, n4.symm⟩
/-- numbers as they are laid down one by one -/
def arrN (ns : List Nat) (i : Nat) : List Value := (ns.take i ++ List.replicate (4 - i) 0).map fun (n : Nat) => .int .i64 (n : Nat)
theorem arrN_len {ns : List Nat} (h : ns.length = 4) {i : Nat} (hi : i ≤ 4) : (arrN ns i).length = 4 := by simp [arrN]; omega
theorem arrN_put {ns : List Nat} (h : ns.length = 4) {i : Nat} (hi : i < 4) : (arrN ns i).take i ++ [Value.int .i64 (ns.getD i 0 : Nat)] ++ (arrN ns i).drop (i + 1) = arrN ns (i + 1) := by
  unfold arrN
  rw [take_succ_d 0 (by omega)]
  obtain ⟨a, b, c, d, rfl⟩ : ∃ a b c d, ns = [a, b, c, d] := by
    match ns, h with
    | [a, b, c, d], _ => exact ⟨a, b, c, d, rfl⟩
  have : i = 0 ∨ i = 1 ∨ i = 2 ∨ i = 3 := by omega
  rcases this with rfl | rfl | rfl | rfl <;> rfl
theorem arrN_four {ns : List Nat} (h : ns.length = 4) : arrN ns 4 = [.int .i64 (ns.getD 0 0 : Nat), .int .i64 (ns.getD 1 0 : Nat), .int .i64 (ns.getD 2 0 : Nat), .int .i64 (ns.getD 3 0 : Nat)] := by
  match ns, h with
  | [a, b, c, d], _ => rfl
def S165 (T : Heap) (N : Num) : Spec := fun args h K => ∃ s, args = [.string (str s)] ∧ s.length ≤ 1000000 ∧ Heap.le T h ∧
  (∀ t : Tg, ¬ t.bad → textOf t = s → ∀ h', Heap.le h h' → K (.tuple #[aggT t, .nilIface]) h') ∧ ((∀ t : Tg, ¬ t.bad → textOf t ≠ s) → ∀ h', Heap.le h h' → K (.tuple #[aggT Tg.zero, errV N 4]) h')
theorem F165_ok {N : Num} {Γ : Ctx} [GoodC Γ] {T : Heap} (H180 : Sat (S180 T) (Γ 180)) (H181 : Sat (S181 T) (Γ 181)) (H182 : Sat S182 (Γ 182)) (H177 : Sat S177 (Γ 177)) (H163 : Sat (S163 T N) (Γ 163)) : Sat (S165 T N) (SF N Γ F165) := by
  rintro _ h K ⟨s, rfl, hsl, hT, hK1, hK2⟩
  simp only [errV_succ, aggT, Tg.zero] at hK1 hK2
  refine i_fun rfl ?_
  simp only [F165, env0, List.map, List.length, List.replicate, List.cons_append, List.nil_append, Nat.reduceSub, Nat.reduceAdd]
  have hct := cutT_len 58 s
  try simp (disch := first | omega | (simp only [PL]; omega)) only [PS, P1, P2, P3, P4, P5, P6, P7, P8, PA, PB, PC, Nat.reduceAdd, Nat.reduceSub, Nat.reduceMul, Nat.reduceLeDiff, Nat.reduceEqDiff, Nat.succ_ne_self, reduceCtorEq, Int.reduceToNat, Int.cast_ofNat_Int, Int.reduceEq, Int.reduceNe, Int.reduceLT, Int.reduceLE]
  refine i_call H180 ⟨s, 58, rfl, hsl, hT, fun h1 hle1 => ?_⟩
  try simp (disch := first | omega | (simp only [PL]; omega)) only [PS, P1, P2, P3, P4, P5, P6, P7, P8, PA, PB, PC, Nat.reduceAdd, Nat.reduceSub, Nat.reduceMul, Nat.reduceLeDiff, Nat.reduceEqDiff, Nat.succ_ne_self, reduceCtorEq, Int.reduceToNat, Int.cast_ofNat_Int, Int.reduceEq, Int.reduceNe, Int.reduceLT, Int.reduceLE]
  refine i_call H181 ⟨cutT 58 s, 46, rfl, by omega, hT.trans hle1, fun v h2 ho2 => ?_⟩
  have hle2 := ho2.1
  have hS := ho2.sl (enc := encT) (fun _ => rfl)
  have hwm := pcs_mem_len (c := 46) (s := cutT 58 s)
  have htag : ∀ t : Tg, ¬ t.bad → textOf t = s → _ := fun t h1 h2 => tagR_of h1 h2
  obtain ⟨w, hw⟩ : ∃ w, w = pcs 46 (cutT 58 s) := ⟨_, rfl⟩
  obtain ⟨hd, hhd⟩ : ∃ hd, hd = cutH 58 s := ⟨_, rfl⟩
  have htr : tagR s = ⟨(kindF hd 3 : Nat), (numv (w.getD 0 []) : Nat), 6 - ((w.getD 1 []).length : Nat), (numv (w.getD 1 []) : Nat), (numv (w.getD 2 []) : Nat), (numv (w.getD 3 []) : Nat)⟩ := by rw [hw, hhd]; rfl
  rw [htr] at htag
  rw [← hw] at hS hwm htag
  clear ho2 htr
  have R := hS.rules1 (fun t => .string (str t)) (fun _ => rfl) default
  try simp (disch := first | omega | (simp only [PL]; omega)) only [PS, P1, P2, P3, P4, P5, P6, P7, P8, PA, PB, PC, Nat.reduceAdd, Nat.reduceSub, Nat.reduceMul, Nat.reduceLeDiff, Nat.reduceEqDiff, Nat.succ_ne_self, reduceCtorEq, Int.reduceToNat, Int.cast_ofNat_Int, Int.reduceEq, Int.reduceNe, Int.reduceLT, Int.reduceLE, R]
  rw [← hhd]
  refine i_cond (fun c1 => ?_) (fun c1 => ?_)
  · try simp (disch := first | omega | (simp only [PL]; omega)) only [PS, P1, P2, P3, P4, P5, P6, P7, P8, PA, PB, PC, Nat.reduceAdd, Nat.reduceSub, Nat.reduceMul, Nat.reduceLeDiff, Nat.reduceEqDiff, Nat.succ_ne_self, reduceCtorEq, Int.reduceToNat, Int.cast_ofNat_Int, Int.reduceEq, Int.reduceNe, Int.reduceLT, Int.reduceLE]
    refine hK2 (fun t hb ht => ?_) h2 (hle1.trans hle2)
    have := (htag t hb ht).1
    omega
  have hwl : w.length = 4 := by omega
  rw [hwl] at R
  try simp (disch := first | omega | (simp only [PL]; omega)) only [PS, P1, P2, P3, P4, P5, P6, P7, P8, PA, PB, PC, Nat.reduceAdd, Nat.reduceSub, Nat.reduceMul, Nat.reduceLeDiff, Nat.reduceEqDiff, Nat.succ_ne_self, reduceCtorEq, Int.reduceToNat, Int.cast_ofNat_Int, Int.reduceEq, Int.reduceNe, Int.reduceLT, Int.reduceLE, R]
  refine i_newO fun b6 h3 hle3 hb6 ho6 => ?_
  obtain ⟨ns, hns⟩ : ∃ ns : List Nat, ns = w.map numv := ⟨_, rfl⟩
  have hnl : ns.length = 4 := by rw [hns]; simpa using hwl
  have hnd : ∀ j, j < 4 → ns.getD j 0 = numv (w.getD j []) := by
    intro j hj
    rw [hns, List.getD_eq_getElem?_getD, List.getD_eq_getElem?_getD, List.getElem?_map, List.getElem?_eq_getElem (by omega)]; rfl
  have ho6' : objAt h3 ⟨b6, 0, none⟩ (arrN ns 0) := ho6.le (fr_le _ _)
  have R3 := (hS.le hle3).rules1 (fun t => .string (str t)) (fun _ => rfl) default
  rw [hwl] at R3
  try simp (disch := first | omega | (simp only [PL]; omega)) only [PS, P1, P2, P3, P4, P5, P6, P7, P8, PA, PB, PC, Nat.reduceAdd, Nat.reduceSub, Nat.reduceMul, Nat.reduceLeDiff, Nat.reduceEqDiff, Nat.succ_ne_self, reduceCtorEq, Int.reduceToNat, Int.cast_ofNat_Int, Int.reduceEq, Int.reduceNe, Int.reduceLT, Int.reduceLE, R3]
  refine i_meet_blk (fun env H => Heap.le h2 H ∧ objAt H ⟨b6, 0, none⟩ (arrN ns 4) ∧ (∀ j, j < 4 → numOk (w.getD j [])) ∧ env = [some (.string (str s)), some (.agg #[.int .i64 0, .int .i64 0, .int .i64 0, .int .i64 0, .int .i64 0, .int .i64 0]), none, some (.string (str hd)), none, some v, some (.pointer (some ⟨b6, 0, none⟩)), none, none, none, none, none, none, none, none, none, none, none, none, none, none, none, none, none, none, none, none, none, none, none, none, none, none, none]) ?_ ?_
  rotate_left
  · refine i_loop (fun i : Nat => [some (.string (str s)), some (.agg #[.int .i64 0, .int .i64 0, .int .i64 0, .int .i64 0, .int .i64 0, .int .i64 0]), none, some (.string (str hd)), none, some v, some (.pointer (some ⟨b6, 0, none⟩)), none, none, none, none, none, none, none, none, none, none, none, none, some v, some (.int .i64 4), some (.int .i64 (i : Nat)), none, none, none, none, none, none, none, none, none, none, none, none])
      (fun i H => Heap.le h2 H ∧ i ≤ 4 ∧ objAt H ⟨b6, 0, none⟩ (arrN ns i) ∧ ∀ j, j < i → numOk (w.getD j [])) (fun i => 4 - i) 0 (by try simp only [Pe, and_true, true_and, and_self]; simp) ⟨hle3, by omega, ho6', fun j hj => by omega⟩ ?_
    rintro i H ⟨hle, hi, ho, hok⟩
    have RH := (hS.le hle).rules1 (fun t => .string (str t)) (fun _ => rfl) default
    rw [hwl] at RH
    try simp (disch := first | omega | (simp only [PL]; omega)) only [PS, P1, P2, P3, P4, P5, P6, P7, P8, PA, PB, PC, Nat.reduceAdd, Nat.reduceSub, Nat.reduceMul, Nat.reduceLeDiff, Nat.reduceEqDiff, Nat.succ_ne_self, reduceCtorEq, Int.reduceToNat, Int.cast_ofNat_Int, Int.reduceEq, Int.reduceNe, Int.reduceLT, Int.reduceLE]
    refine i_cond (fun c2 => ?_) (fun c2 => ?_)
    rotate_left
    · have : i = 4 := by omega
      subst this
      try simp (disch := first | omega | (simp only [PL]; omega)) only [PS, P1, P2, P3, P4, P5, P6, P7, P8, PA, PB, PC, Nat.reduceAdd, Nat.reduceSub, Nat.reduceMul, Nat.reduceLeDiff, Nat.reduceEqDiff, Nat.succ_ne_self, reduceCtorEq, Int.reduceToNat, Int.cast_ofNat_Int, Int.reduceEq, Int.reduceNe, Int.reduceLT, Int.reduceLE]
      exact k_meet _ (by try simp only [Pe, and_true, true_and, and_self]) ⟨hle, ho, hok, rfl⟩
    have hi2 : i < 4 := by omega
    have hwi : IntKind.i64.wrap ((i : Int) + 1) = ((i + 1 : Nat) : Int) := by rw [w64 (by omega) (by omega)]; omega
    have hwd : w.getD i default = w.getD i [] := rfl
    have hm := hwm _ (getD_mem [] (show i < w.length by omega))
    have hnd' := hnd i hi2
    try simp (disch := first | omega | (simp only [PL]; omega)) only [PS, P1, P2, P3, P4, P5, P6, P7, P8, PA, PB, PC, Nat.reduceAdd, Nat.reduceSub, Nat.reduceMul, Nat.reduceLeDiff, Nat.reduceEqDiff, Nat.succ_ne_self, reduceCtorEq, Int.reduceToNat, Int.cast_ofNat_Int, Int.reduceEq, Int.reduceNe, Int.reduceLT, Int.reduceLE, RH, hwd]
    refine i_call H182 ⟨w.getD i [], rfl, by omega, ?_⟩
    by_cases hnum : numOk (w.getD i [])
    rotate_left
    · rw [if_neg hnum, decide_eq_false hnum]
      try simp (disch := first | omega | (simp only [PL]; omega)) only [PS, P1, P2, P3, P4, P5, P6, P7, P8, PA, PB, PC, Nat.reduceAdd, Nat.reduceSub, Nat.reduceMul, Nat.reduceLeDiff, Nat.reduceEqDiff, Nat.succ_ne_self, reduceCtorEq, Int.reduceToNat, Int.cast_ofNat_Int, Int.reduceEq, Int.reduceNe, Int.reduceLT, Int.reduceLE]
      refine hK2 (fun t hb ht => ?_) H (hle1.trans (hle2.trans hle))
      exact hnum ((htag t hb ht).2.1 i hi2)
    rw [if_pos hnum, decide_eq_true hnum, ← hnd']
    have hput := arrN_put hnl hi2
    have hal := arrN_len hnl hi
    have haa : ∀ h (k : IntKind), o2V h (.aadr 4 1) (.v (.pointer (some ⟨b6, 0, none⟩))) (.v (.int k (i : Nat))) = some (.v (.pointer (some ((⟨b6, 0, none⟩ : Addr).add i)))) := fun h k => by
      have := P3.2.2.1 h 4 1 ⟨b6, 0, none⟩ k (i : Nat) (by omega) (by omega)
      simpa using this
    try simp (disch := first | omega | (simp only [PL]; omega)) only [PS, P1, P2, P3, P4, P5, P6, P7, P8, PA, PB, PC, Nat.reduceAdd, Nat.reduceSub, Nat.reduceMul, Nat.reduceLeDiff, Nat.reduceEqDiff, Nat.succ_ne_self, reduceCtorEq, Int.reduceToNat, Int.cast_ofNat_Int, Int.reduceEq, Int.reduceNe, Int.reduceLT, Int.reduceLE, haa]
    refine i_st ho i 1 rfl rfl (by omega) (by omega) fun o hob _ => ?_
    have hob2 : objAt (H.set b6 o) ⟨b6, 0, none⟩ (arrN ns (i + 1)) := by rw [← hput]; exact hob H rfl
    have hle4 : Heap.le h2 (H.set b6 o) := hle.over hb6 o
    generalize H.set b6 o = H2 at *
    try simp (disch := first | omega | (simp only [PL]; omega)) only [PS, P1, P2, P3, P4, P5, P6, P7, P8, PA, PB, PC, Nat.reduceAdd, Nat.reduceSub, Nat.reduceMul, Nat.reduceLeDiff, Nat.reduceEqDiff, Nat.succ_ne_self, reduceCtorEq, Int.reduceToNat, Int.cast_ofNat_Int, Int.reduceEq, Int.reduceNe, Int.reduceLT, Int.reduceLE, hwi]
    refine k_loop (i + 1) (by omega) (by try simp only [Pe, and_true, true_and, and_self]) ⟨hle4, by omega, hob2, fun j hj => ?_⟩
    by_cases hji : j = i
    · rw [hji]; exact hnum
    · exact hok j (by omega)
  rintro env H ⟨hle, ho, hok, rfl⟩
  rw [arrN_four hnl, hnd 0 (by omega), hnd 1 (by omega), hnd 2 (by omega), hnd 3 (by omega)] at ho
  have RH := (hS.le hle).rules1 (fun t => .string (str t)) (fun _ => rfl) default
  rw [hwl] at RH
  have hwd : w.getD 1 default = w.getD 1 [] := rfl
  have hm1 := hwm _ (getD_mem [] (show 1 < w.length by omega))
  have hw6 : IntKind.i64.wrap (6 - ((w.getD 1 []).length : Nat)) = 6 - ((w.getD 1 []).length : Nat) := w64 (by omega) (by omega)
  have B0 : H.cell ⟨b6, 0, none⟩ = some (.int .i64 (numv (w.getD 0 []) : Nat)) := ho.rules.2.1 (by simp)
  have B1 : H.cell ((⟨b6, 0, none⟩ : Addr).add 1) = some (.int .i64 (numv (w.getD 1 []) : Nat)) := ho.rules.1 1 (by simp)
  have B2 : H.cell ((⟨b6, 0, none⟩ : Addr).add 2) = some (.int .i64 (numv (w.getD 2 []) : Nat)) := ho.rules.1 2 (by simp)
  have B3 : H.cell ((⟨b6, 0, none⟩ : Addr).add 3) = some (.int .i64 (numv (w.getD 3 []) : Nat)) := ho.rules.1 3 (by simp)
  have A0 : ∀ h (k : IntKind), o2V h (.aadr 4 1) (.v (.pointer (some ⟨b6, 0, none⟩))) (.v (.int k 0)) = some (.v (.pointer (some ⟨b6, 0, none⟩))) := fun h k => rfl
  have A1 : ∀ h (k : IntKind), o2V h (.aadr 4 1) (.v (.pointer (some ⟨b6, 0, none⟩))) (.v (.int k 1)) = some (.v (.pointer (some ((⟨b6, 0, none⟩ : Addr).add 1)))) := fun h k => rfl
  have A2 : ∀ h (k : IntKind), o2V h (.aadr 4 1) (.v (.pointer (some ⟨b6, 0, none⟩))) (.v (.int k 2)) = some (.v (.pointer (some ((⟨b6, 0, none⟩ : Addr).add 2)))) := fun h k => rfl
  have A3 : ∀ h (k : IntKind), o2V h (.aadr 4 1) (.v (.pointer (some ⟨b6, 0, none⟩))) (.v (.int k 3)) = some (.v (.pointer (some ((⟨b6, 0, none⟩ : Addr).add 3)))) := fun h k => rfl
  try simp (disch := first | omega | (simp only [PL]; omega)) only [PS, P1, P2, P3, P4, P5, P6, P7, P8, PA, PB, PC, Nat.reduceAdd, Nat.reduceSub, Nat.reduceMul, Nat.reduceLeDiff, Nat.reduceEqDiff, Nat.succ_ne_self, reduceCtorEq, Int.reduceToNat, Int.cast_ofNat_Int, Int.reduceEq, Int.reduceNe, Int.reduceLT, Int.reduceLE, RH, hwd, hw6, A0, A1, A2, A3, B0, B1, B2, B3]
  refine i_newO fun b11 h4 hle4 hb11 ho11 => ?_
  refine i_le (le_one hle4) ?_
  try simp (disch := first | omega | (simp only [PL]; omega)) only [PS, P1, P2, P3, P4, P5, P6, P7, P8, PA, PB, PC, Nat.reduceAdd, Nat.reduceSub, Nat.reduceMul, Nat.reduceLeDiff, Nat.reduceEqDiff, Nat.succ_ne_self, reduceCtorEq, Int.reduceToNat, Int.cast_ofNat_Int, Int.reduceEq, Int.reduceNe, Int.reduceLT, Int.reduceLE]
  refine i_st (ho11.le (fr_le H h4)) 0 6 rfl rfl (by omega) (Nat.le_refl 6) fun o hob _ => ?_
  have ho5 : objAt (h4.set b11 o) ⟨b11, 0, none⟩ [.int .i64 (kindF hd 0 : Nat), .int .i64 (numv (w.getD 0 []) : Nat), .int .i64 (6 - ((w.getD 1 []).length : Nat)), .int .i64 (numv (w.getD 1 []) : Nat), .int .i64 (numv (w.getD 2 []) : Nat), .int .i64 (numv (w.getD 3 []) : Nat)] := hob h4 rfl
  have hle5 : Heap.le H (h4.set b11 o) := but.le (b := b11) hle4 hb11 fun x hx => Heap.set_ne hx
  have hle05 : Heap.le h (h4.set b11 o) := hle1.trans (hle2.trans (hle.trans hle5))
  generalize h4.set b11 o = h5 at *
  have hb11h : h b11 = none := le_none (hle1.trans (hle2.trans hle)) b11 hb11
  clear ho11 hob B0 B1 B2 B3 RH ho ho6 ho6' R R3
  try simp (disch := first | omega | (simp only [PL]; omega)) only [PS, P1, P2, P3, P4, P5, P6, P7, P8, PA, PB, PC, Nat.reduceAdd, Nat.reduceSub, Nat.reduceMul, Nat.reduceLeDiff, Nat.reduceEqDiff, Nat.succ_ne_self, reduceCtorEq, Int.reduceToNat, Int.cast_ofNat_Int, Int.reduceEq, Int.reduceNe, Int.reduceLT, Int.reduceLE]
  refine i_meet_blk (fun env H => Heap.le h H ∧ objAt H ⟨b11, 0, none⟩ [.int .i64 (kindF hd 3 : Nat), .int .i64 (numv (w.getD 0 []) : Nat), .int .i64 (6 - ((w.getD 1 []).length : Nat)), .int .i64 (numv (w.getD 1 []) : Nat), .int .i64 (numv (w.getD 2 []) : Nat), .int .i64 (numv (w.getD 3 []) : Nat)] ∧ env = [some (.string (str s)), some (.agg #[.int .i64 0, .int .i64 0, .int .i64 0, .int .i64 0, .int .i64 0, .int .i64 0]), none, some (.string (str hd)), none, none, none, none, none, none, none, some (.pointer (some ⟨b11, 0, none⟩)), none, none, none, none, none, none, none, none, none, none, none, none, none, none, none, none, none, none, none, none, none, none]) ?_ ?_
  rotate_left
  · refine i_loop (fun k : Nat => [some (.string (str s)), some (.agg #[.int .i64 0, .int .i64 0, .int .i64 0, .int .i64 0, .int .i64 0, .int .i64 0]), none, some (.string (str hd)), none, none, none, none, none, none, none, some (.pointer (some ⟨b11, 0, none⟩)), some (.int .i64 (k + 1 : Nat)), none, none, none, none, none, none, none, none, none, none, none, none, none, none, none, none, none, none, none, none, none]) (fun k H => Heap.le h H ∧ k ≤ 3 ∧ objAt H ⟨b11, 0, none⟩ [.int .i64 (kindF hd k : Nat), .int .i64 (numv (w.getD 0 []) : Nat), .int .i64 (6 - ((w.getD 1 []).length : Nat)), .int .i64 (numv (w.getD 1 []) : Nat), .int .i64 (numv (w.getD 2 []) : Nat), .int .i64 (numv (w.getD 3 []) : Nat)]) (fun k => 3 - k) 0 (by try simp only [Pe, and_true, true_and, and_self]; rfl) ⟨hle05, by omega, ho5⟩ ?_
    rintro k H ⟨hle, hk, ho⟩
    have hwk : IntKind.i64.wrap (((k + 1 : Nat) : Int) + 1) = ((k + 1 + 1 : Nat) : Int) := by rw [w64 (by omega) (by omega)]; omega
    try simp (disch := first | omega | (simp only [PL]; omega)) only [PS, P1, P2, P3, P4, P5, P6, P7, P8, PA, PB, PC, Nat.reduceAdd, Nat.reduceSub, Nat.reduceMul, Nat.reduceLeDiff, Nat.reduceEqDiff, Nat.succ_ne_self, reduceCtorEq, Int.reduceToNat, Int.cast_ofNat_Int, Int.reduceEq, Int.reduceNe, Int.reduceLT, Int.reduceLE]
    refine i_cond (fun c2 => ?_) (fun c2 => ?_)
    rotate_left
    · have : k = 3 := by omega
      subst this
      try simp (disch := first | omega | (simp only [PL]; omega)) only [PS, P1, P2, P3, P4, P5, P6, P7, P8, PA, PB, PC, Nat.reduceAdd, Nat.reduceSub, Nat.reduceMul, Nat.reduceLeDiff, Nat.reduceEqDiff, Nat.succ_ne_self, reduceCtorEq, Int.reduceToNat, Int.cast_ofNat_Int, Int.reduceEq, Int.reduceNe, Int.reduceLT, Int.reduceLE]
      exact k_meet _ (by try simp only [Pe, and_true, true_and, and_self]) ⟨hle, ho, rfl⟩
    have hk2 : k < 3 := by omega
    try simp (disch := first | omega | (simp only [PL]; omega)) only [PS, P1, P2, P3, P4, P5, P6, P7, P8, PA, PB, PC, Nat.reduceAdd, Nat.reduceSub, Nat.reduceMul, Nat.reduceLeDiff, Nat.reduceEqDiff, Nat.succ_ne_self, reduceCtorEq, Int.reduceToNat, Int.cast_ofNat_Int, Int.reduceEq, Int.reduceNe, Int.reduceLT, Int.reduceLE]
    refine i_call H177 ⟨((k + 1 : Nat) : Int), rfl, by omega, by omega, ?_⟩
    try simp (disch := first | omega | (simp only [PL]; omega)) only [PS, P1, P2, P3, P4, P5, P6, P7, P8, PA, PB, PC, Nat.reduceAdd, Nat.reduceSub, Nat.reduceMul, Nat.reduceLeDiff, Nat.reduceEqDiff, Nat.succ_ne_self, reduceCtorEq, Int.reduceToNat, Int.cast_ofNat_Int, Int.reduceEq, Int.reduceNe, Int.reduceLT, Int.reduceLE]
    refine i_cond (fun c3 => ?_) (fun c3 => ?_)
    · try simp (disch := first | omega | (simp only [PL]; omega)) only [PS, P1, P2, P3, P4, P5, P6, P7, P8, PA, PB, PC, Nat.reduceAdd, Nat.reduceSub, Nat.reduceMul, Nat.reduceLeDiff, Nat.reduceEqDiff, Nat.succ_ne_self, reduceCtorEq, Int.reduceToNat, Int.cast_ofNat_Int, Int.reduceEq, Int.reduceNe, Int.reduceLT, Int.reduceLE]
      refine i_st ho 0 1 rfl rfl (by omega) (by simp) fun o hob _ => ?_
      have hob2 : objAt (H.set b11 o) ⟨b11, 0, none⟩ [.int .i64 (kindF hd (k + 1) : Nat), .int .i64 (numv (w.getD 0 []) : Nat), .int .i64 (6 - ((w.getD 1 []).length : Nat)), .int .i64 (numv (w.getD 1 []) : Nat), .int .i64 (numv (w.getD 2 []) : Nat), .int .i64 (numv (w.getD 3 []) : Nat)] := by
        have := hob H rfl
        simp only [kindF, if_pos c3]
        exact this
      have hle6 : Heap.le h (H.set b11 o) := hle.over hb11h o
      generalize H.set b11 o = H2 at *
      try simp (disch := first | omega | (simp only [PL]; omega)) only [PS, P1, P2, P3, P4, P5, P6, P7, P8, PA, PB, PC, Nat.reduceAdd, Nat.reduceSub, Nat.reduceMul, Nat.reduceLeDiff, Nat.reduceEqDiff, Nat.succ_ne_self, reduceCtorEq, Int.reduceToNat, Int.cast_ofNat_Int, Int.reduceEq, Int.reduceNe, Int.reduceLT, Int.reduceLE, hwk]
      exact k_loop (k + 1) (by omega) (by try simp only [Pe, and_true, true_and, and_self]) ⟨hle6, by omega, hob2⟩
    · have e : kindF hd (k + 1) = kindF hd k := by simp only [kindF, if_neg c3]
      try simp (disch := first | omega | (simp only [PL]; omega)) only [PS, P1, P2, P3, P4, P5, P6, P7, P8, PA, PB, PC, Nat.reduceAdd, Nat.reduceSub, Nat.reduceMul, Nat.reduceLeDiff, Nat.reduceEqDiff, Nat.succ_ne_self, reduceCtorEq, Int.reduceToNat, Int.cast_ofNat_Int, Int.reduceEq, Int.reduceNe, Int.reduceLT, Int.reduceLE, hwk]
      exact k_loop (k + 1) (by omega) (by try simp only [Pe, and_true, true_and, and_self]) ⟨hle, by omega, by rw [e]; exact ho⟩
  rintro env H ⟨hle, ho, rfl⟩
  have hrow := ho.rules.2.2
  simp only [List.length_cons, List.length_nil, Nat.reduceAdd] at hrow
  obtain ⟨t, ht⟩ : ∃ t : Tg, t = ⟨(kindF hd 3 : Nat), (numv (w.getD 0 []) : Nat), 6 - ((w.getD 1 []).length : Nat), (numv (w.getD 1 []) : Nat), (numv (w.getD 2 []) : Nat), (numv (w.getD 3 []) : Nat)⟩ := ⟨_, rfl⟩
  rw [← ht] at htag
  have hrow2 : H.row ⟨b11, 0, none⟩ 6 = some #[.int .i64 t.kind, .int .i64 t.filter, .int .i64 t.part, .int .i64 t.company, .int .i64 t.ref, .int .i64 t.serial] := by rw [ht]; exact hrow
  clear hrow
  try simp (disch := first | omega | (simp only [PL]; omega)) only [PS, P1, P2, P3, P4, P5, P6, P7, P8, PA, PB, PC, Nat.reduceAdd, Nat.reduceSub, Nat.reduceMul, Nat.reduceLeDiff, Nat.reduceEqDiff, Nat.succ_ne_self, reduceCtorEq, Int.reduceToNat, Int.cast_ofNat_Int, Int.reduceEq, Int.reduceNe, Int.reduceLT, Int.reduceLE, hrow2]
  refine i_call H163 ⟨t, rfl, hT.trans hle, fun hb h6 hle6 => ?_, fun hb h6 hle6 => ?_⟩
  · try simp (disch := first | omega | (simp only [PL]; omega)) only [PS, P1, P2, P3, P4, P5, P6, P7, P8, PA, PB, PC, Nat.reduceAdd, Nat.reduceSub, Nat.reduceMul, Nat.reduceLeDiff, Nat.reduceEqDiff, Nat.succ_ne_self, reduceCtorEq, Int.reduceToNat, Int.cast_ofNat_Int, Int.reduceEq, Int.reduceNe, Int.reduceLT, Int.reduceLE, errV_succ]
    refine hK2 (fun t' hb' ht' => ?_) h6 (hle.trans hle6)
    rw [(htag t' hb' ht').2.2] at hb'
    exact hb' hb
  · have hrow3 : h6.row ⟨b11, 0, none⟩ 6 = some #[.int .i64 t.kind, .int .i64 t.filter, .int .i64 t.part, .int .i64 t.company, .int .i64 t.ref, .int .i64 t.serial] := row_hmono hle6 hrow2
    try simp (disch := first | omega | (simp only [PL]; omega)) only [PS, P1, P2, P3, P4, P5, P6, P7, P8, PA, PB, PC, Nat.reduceAdd, Nat.reduceSub, Nat.reduceMul, Nat.reduceLeDiff, Nat.reduceEqDiff, Nat.succ_ne_self, reduceCtorEq, Int.reduceToNat, Int.cast_ofNat_Int, Int.reduceEq, Int.reduceNe, Int.reduceLT, Int.reduceLE]
    refine i_cond (fun c4 => ?_) (fun c4 => ?_)
    · try simp (disch := first | omega | (simp only [PL]; omega)) only [PS, P1, P2, P3, P4, P5, P6, P7, P8, PA, PB, PC, Nat.reduceAdd, Nat.reduceSub, Nat.reduceMul, Nat.reduceLeDiff, Nat.reduceEqDiff, Nat.succ_ne_self, reduceCtorEq, Int.reduceToNat, Int.cast_ofNat_Int, Int.reduceEq, Int.reduceNe, Int.reduceLT, Int.reduceLE]
      refine hK2 (fun t' hb' ht' => ?_) h6 (hle.trans hle6)
      rw [(htag t' hb' ht').2.2] at ht'
      exact c4 ht'
    · try simp (disch := first | omega | (simp only [PL]; omega)) only [PS, P1, P2, P3, P4, P5, P6, P7, P8, PA, PB, PC, Nat.reduceAdd, Nat.reduceSub, Nat.reduceMul, Nat.reduceLeDiff, Nat.reduceEqDiff, Nat.succ_ne_self, reduceCtorEq, Int.reduceToNat, Int.cast_ofNat_Int, Int.reduceEq, Int.reduceNe, Int.reduceLT, Int.reduceLE, hrow3]
      exact hK1 t hb (Decidable.not_not.1 c4) h6 (hle.trans hle6)
end Go.Cw
namespace Go.Cw
open Go

def mkT (w : List (List UInt8)) (k p : Nat) : Tg := ⟨(k : Nat), (numv (w.getD 0 []) : Nat), (p : Nat), (numv (w.getD 1 []) : Nat), (numv (w.getD 2 []) : Nat), (numv (w.getD 3 []) : Nat)⟩
theorem read_of {t : Tg} {s : List UInt8} (h : ¬ t.bad) (hs : textOf t = s) : (pcs 58 s).length = 2 ∧ (pcs 46 ((pcs 58 s).getD 1 [])).length = 4 ∧ (∀ j, j < 4 → figOk ((pcs 46 ((pcs 58 s).getD 1 [])).getD j []) ∧ (pcs 46 ((pcs 58 s).getD 1 [])).getD j [] ≠ []) ∧
    ∃ k p : Nat, 1 ≤ k ∧ k ≤ 3 ∧ p < 6 ∧ t = mkT (pcs 46 ((pcs 58 s).getD 1 [])) k p := by
  subst hs
  obtain ⟨a, ha, e1, e2, e4, e3, l1, l2, l3, l4, hp, hc6, hr6, n1, n2, n3, n4, k1, k2⟩ := text_read h
  have hpa := partsOf_some ha
  have hp6 : 0 ≤ t.part ∧ t.part < 6 := by omega
  rw [e4]
  simp only [List.getD_cons_zero, List.getD_cons_succ, e3]
  refine ⟨rfl, rfl, fun j hj => ?_, t.kind.toNat, t.part.toNat, by omega, by omega, by omega, ?_⟩
  · have : j = 0 ∨ j = 1 ∨ j = 2 ∨ j = 3 := by omega
    rcases this with rfl | rfl | rfl | rfl
    · exact ⟨⟨by simp only [List.getD_cons_zero]; omega, digs_dec _⟩, dec_ne _⟩
    · exact ⟨⟨by simp only [List.getD_cons_zero, List.getD_cons_succ]; omega, digs_pad _ _⟩, padD_ne _ _⟩
    · exact ⟨⟨by simp only [List.getD_cons_zero, List.getD_cons_succ]; omega, digs_pad _ _⟩, padD_ne _ _⟩
    · exact ⟨⟨by simp only [List.getD_cons_zero, List.getD_cons_succ]; omega, digs_dec _⟩, dec_ne _⟩
  · unfold mkT
    cases t
    dsimp only at *
    simp only [List.getD_cons_zero, List.getD_cons_succ, Tg.mk.injEq]
    exact ⟨by omega, n1.symm, by omega, n2.symm, n3.symm, n4.symm⟩
def S166 : Spec := fun args h K => ∃ s, args = [.string (str s)] ∧ s.length ≤ 1000000 ∧
  (∀ t : Tg, ¬ t.bad → textOf t = s → ∀ h', Heap.le h h' → K (.tuple #[aggT t, .bool true]) h') ∧ ((∀ t : Tg, ¬ t.bad → textOf t ≠ s) → ∀ h', Heap.le h h' → K (.tuple #[aggT Tg.zero, .bool false]) h')
theorem F166_ok {N : Num} {Γ : Ctx} [GoodC Γ] (H183 : Sat S183 (Γ 183)) (H184 : Sat S184 (Γ 184)) (H128 : Sat S128 (Γ 128)) (H164 : Sat S164 (Γ 164)) : Sat S166 (SF N Γ F166) := by
  rintro _ h K ⟨s, rfl, hsl, hK1, hK2⟩
  simp only [aggT, Tg.zero] at hK1 hK2
  refine i_fun rfl ?_
  simp only [F166, env0, List.map, List.length, List.replicate, List.cons_append, List.nil_append, Nat.reduceSub, Nat.reduceAdd]
  have htag : ∀ t : Tg, ¬ t.bad → textOf t = s → _ := fun t h1 h2 => read_of h1 h2
  have h58 : ((58 : UInt8).toNat : Int) = 58 := rfl
  have h46 : ((46 : UInt8).toNat : Int) = 46 := rfl
  try simp (disch := first | omega | (simp only [PL]; omega)) only [PS, P1, P2, P3, P4, P5, P6, P7, P8, PA, PB, PC, Nat.reduceAdd, Nat.reduceSub, Nat.reduceMul, Nat.reduceLeDiff, Nat.reduceEqDiff, Nat.succ_ne_self, reduceCtorEq, Int.reduceToNat, Int.cast_ofNat_Int, Int.reduceEq, Int.reduceNe, Int.reduceLT, Int.reduceLE]
  refine i_call H183 ⟨s, 58, rfl, hsl, fun v3 h1 ho1 => ?_⟩
  have hle1 := ho1.1
  have hS1 := ho1.sl (enc := encT) (fun _ => rfl)
  have hm1 := pcs_mem_len (c := 58) (s := s)
  obtain ⟨w1, hw1⟩ : ∃ w, w = pcs 58 s := ⟨_, rfl⟩
  rw [← hw1] at hS1 hm1 htag
  clear ho1
  have R1 := hS1.rules1 (fun t => .string (str t)) (fun _ => rfl) default
  try simp (disch := first | omega | (simp only [PL]; omega)) only [PS, P1, P2, P3, P4, P5, P6, P7, P8, PA, PB, PC, Nat.reduceAdd, Nat.reduceSub, Nat.reduceMul, Nat.reduceLeDiff, Nat.reduceEqDiff, Nat.succ_ne_self, reduceCtorEq, Int.reduceToNat, Int.cast_ofNat_Int, Int.reduceEq, Int.reduceNe, Int.reduceLT, Int.reduceLE, R1]
  refine i_cond (fun c1 => ?_) (fun c1 => ?_)
  · try simp (disch := first | omega | (simp only [PL]; omega)) only [PS, P1, P2, P3, P4, P5, P6, P7, P8, PA, PB, PC, Nat.reduceAdd, Nat.reduceSub, Nat.reduceMul, Nat.reduceLeDiff, Nat.reduceEqDiff, Nat.succ_ne_self, reduceCtorEq, Int.reduceToNat, Int.cast_ofNat_Int, Int.reduceEq, Int.reduceNe, Int.reduceLT, Int.reduceLE]
    refine hK2 (fun t hb ht => ?_) h1 hle1
    have := (htag t hb ht).1
    omega
  have hwl1 : w1.length = 2 := by omega
  rw [hwl1] at R1
  have hd1 : w1.getD 1 default = w1.getD 1 [] := rfl
  have hm11 := hm1 _ (getD_mem [] (show 1 < w1.length by omega))
  try simp (disch := first | omega | (simp only [PL]; omega)) only [PS, P1, P2, P3, P4, P5, P6, P7, P8, PA, PB, PC, Nat.reduceAdd, Nat.reduceSub, Nat.reduceMul, Nat.reduceLeDiff, Nat.reduceEqDiff, Nat.succ_ne_self, reduceCtorEq, Int.reduceToNat, Int.cast_ofNat_Int, Int.reduceEq, Int.reduceNe, Int.reduceLT, Int.reduceLE, R1, hd1]
  refine i_call H183 ⟨w1.getD 1 [], 46, rfl, by omega, fun v4 h2 ho2 => ?_⟩
  have hle2 := ho2.1
  have hS := ho2.sl (enc := encT) (fun _ => rfl)
  have hwm := pcs_mem_len (c := 46) (s := w1.getD 1 [])
  obtain ⟨w, hw⟩ : ∃ w, w = pcs 46 (w1.getD 1 []) := ⟨_, rfl⟩
  rw [← hw] at hS hwm htag
  clear ho2
  have R := hS.rules1 (fun t => .string (str t)) (fun _ => rfl) default
  try simp (disch := first | omega | (simp only [PL]; omega)) only [PS, P1, P2, P3, P4, P5, P6, P7, P8, PA, PB, PC, Nat.reduceAdd, Nat.reduceSub, Nat.reduceMul, Nat.reduceLeDiff, Nat.reduceEqDiff, Nat.succ_ne_self, reduceCtorEq, Int.reduceToNat, Int.cast_ofNat_Int, Int.reduceEq, Int.reduceNe, Int.reduceLT, Int.reduceLE, R]
  refine i_cond (fun c1 => ?_) (fun c1 => ?_)
  · try simp (disch := first | omega | (simp only [PL]; omega)) only [PS, P1, P2, P3, P4, P5, P6, P7, P8, PA, PB, PC, Nat.reduceAdd, Nat.reduceSub, Nat.reduceMul, Nat.reduceLeDiff, Nat.reduceEqDiff, Nat.succ_ne_self, reduceCtorEq, Int.reduceToNat, Int.cast_ofNat_Int, Int.reduceEq, Int.reduceNe, Int.reduceLT, Int.reduceLE]
    refine hK2 (fun t hb ht => ?_) h2 (hle1.trans hle2)
    have := (htag t hb ht).2.1
    omega
  have hwl : w.length = 4 := by omega
  rw [hwl] at R
  try simp (disch := first | omega | (simp only [PL]; omega)) only [PS, P1, P2, P3, P4, P5, P6, P7, P8, PA, PB, PC, Nat.reduceAdd, Nat.reduceSub, Nat.reduceMul, Nat.reduceLeDiff, Nat.reduceEqDiff, Nat.succ_ne_self, reduceCtorEq, Int.reduceToNat, Int.cast_ofNat_Int, Int.reduceEq, Int.reduceNe, Int.reduceLT, Int.reduceLE, R]
  refine i_newO fun b6 h3 hle3 hb6 ho6 => ?_
  obtain ⟨ns, hns⟩ : ∃ ns : List Nat, ns = w.map numv := ⟨_, rfl⟩
  have hnl : ns.length = 4 := by rw [hns]; simpa using hwl
  have hnd : ∀ j, j < 4 → ns.getD j 0 = numv (w.getD j []) := by
    intro j hj
    rw [hns, List.getD_eq_getElem?_getD, List.getD_eq_getElem?_getD, List.getElem?_map, List.getElem?_eq_getElem (by omega)]; rfl
  have ho6' : objAt h3 ⟨b6, 0, none⟩ (arrN ns 0) := ho6.le (fr_le _ _)
  have R3 := (hS.le hle3).rules1 (fun t => .string (str t)) (fun _ => rfl) default
  rw [hwl] at R3
  try simp (disch := first | omega | (simp only [PL]; omega)) only [PS, P1, P2, P3, P4, P5, P6, P7, P8, PA, PB, PC, Nat.reduceAdd, Nat.reduceSub, Nat.reduceMul, Nat.reduceLeDiff, Nat.reduceEqDiff, Nat.succ_ne_self, reduceCtorEq, Int.reduceToNat, Int.cast_ofNat_Int, Int.reduceEq, Int.reduceNe, Int.reduceLT, Int.reduceLE, R3]
  refine i_meet_blk (fun env H => Heap.le h2 H ∧ objAt H ⟨b6, 0, none⟩ (arrN ns 4) ∧ (∀ j, j < 4 → figOk (w.getD j []) ∧ w.getD j [] ≠ []) ∧ env = [some (.string (str s)), some (.agg #[.int .i64 0, .int .i64 0, .int .i64 0, .int .i64 0, .int .i64 0, .int .i64 0]), none, none, none, some (.pointer (some ⟨b6, 0, none⟩)), none, none, none, none, none, none, none, none, none, none, none, none, none, none, none, none, none, none, none, none]) ?_ ?_
  rotate_left
  · refine i_loop (fun i : Nat => [some (.string (str s)), some (.agg #[.int .i64 0, .int .i64 0, .int .i64 0, .int .i64 0, .int .i64 0, .int .i64 0]), none, none, some (v4), some (.pointer (some ⟨b6, 0, none⟩)), some (.int .i64 (i : Nat)), none, none, none, none, none, none, none, none, none, none, none, none, none, none, none, none, none, none, none])
      (fun i H => Heap.le h2 H ∧ i ≤ 4 ∧ objAt H ⟨b6, 0, none⟩ (arrN ns i) ∧ ∀ j, j < i → figOk (w.getD j []) ∧ w.getD j [] ≠ []) (fun i => 4 - i) 0 (by try simp only [Pe, and_true, true_and, and_self]; simp) ⟨hle3, by omega, ho6', fun j hj => by omega⟩ ?_
    rintro i H ⟨hle, hi, ho, hok⟩
    have RH := (hS.le hle).rules1 (fun t => .string (str t)) (fun _ => rfl) default
    rw [hwl] at RH
    try simp (disch := first | omega | (simp only [PL]; omega)) only [PS, P1, P2, P3, P4, P5, P6, P7, P8, PA, PB, PC, Nat.reduceAdd, Nat.reduceSub, Nat.reduceMul, Nat.reduceLeDiff, Nat.reduceEqDiff, Nat.succ_ne_self, reduceCtorEq, Int.reduceToNat, Int.cast_ofNat_Int, Int.reduceEq, Int.reduceNe, Int.reduceLT, Int.reduceLE]
    refine i_cond (fun c2 => ?_) (fun c2 => ?_)
    rotate_left
    · have : i = 4 := by omega
      subst this
      try simp (disch := first | omega | (simp only [PL]; omega)) only [PS, P1, P2, P3, P4, P5, P6, P7, P8, PA, PB, PC, Nat.reduceAdd, Nat.reduceSub, Nat.reduceMul, Nat.reduceLeDiff, Nat.reduceEqDiff, Nat.succ_ne_self, reduceCtorEq, Int.reduceToNat, Int.cast_ofNat_Int, Int.reduceEq, Int.reduceNe, Int.reduceLT, Int.reduceLE]
      exact k_meet _ (by try simp only [Pe, and_true, true_and, and_self]) ⟨hle, ho, hok, rfl⟩
    have hi2 : i < 4 := by omega
    have hwi : IntKind.i64.wrap ((i : Int) + 1) = ((i + 1 : Nat) : Int) := by rw [w64 (by omega) (by omega)]; omega
    have hwd : w.getD i default = w.getD i [] := rfl
    have hm := hwm _ (getD_mem [] (show i < w.length by omega))
    have hnd' := hnd i hi2
    try simp (disch := first | omega | (simp only [PL]; omega)) only [PS, P1, P2, P3, P4, P5, P6, P7, P8, PA, PB, PC, Nat.reduceAdd, Nat.reduceSub, Nat.reduceMul, Nat.reduceLeDiff, Nat.reduceEqDiff, Nat.succ_ne_self, reduceCtorEq, Int.reduceToNat, Int.cast_ofNat_Int, Int.reduceEq, Int.reduceNe, Int.reduceLT, Int.reduceLE, RH, hwd]
    refine i_call H184 ⟨w.getD i [], rfl, by omega, ?_⟩
    by_cases hnum : figOk (w.getD i []) ∧ w.getD i [] ≠ []
    rotate_left
    · rw [decide_eq_false hnum]
      try simp (disch := first | omega | (simp only [PL]; omega)) only [PS, P1, P2, P3, P4, P5, P6, P7, P8, PA, PB, PC, Nat.reduceAdd, Nat.reduceSub, Nat.reduceMul, Nat.reduceLeDiff, Nat.reduceEqDiff, Nat.succ_ne_self, reduceCtorEq, Int.reduceToNat, Int.cast_ofNat_Int, Int.reduceEq, Int.reduceNe, Int.reduceLT, Int.reduceLE]
      refine hK2 (fun t hb ht => ?_) H (hle1.trans (hle2.trans hle))
      exact hnum ((htag t hb ht).2.2.1 i hi2)
    rw [if_pos hnum.1, decide_eq_true hnum, ← hnd']
    have hput := arrN_put hnl hi2
    have hal := arrN_len hnl hi
    have haa : ∀ h (k : IntKind), o2V h (.aadr 4 1) (.v (.pointer (some ⟨b6, 0, none⟩))) (.v (.int k (i : Nat))) = some (.v (.pointer (some ((⟨b6, 0, none⟩ : Addr).add i)))) := fun h k => by
      have := P3.2.2.1 h 4 1 ⟨b6, 0, none⟩ k (i : Nat) (by omega) (by omega)
      simpa using this
    try simp (disch := first | omega | (simp only [PL]; omega)) only [PS, P1, P2, P3, P4, P5, P6, P7, P8, PA, PB, PC, Nat.reduceAdd, Nat.reduceSub, Nat.reduceMul, Nat.reduceLeDiff, Nat.reduceEqDiff, Nat.succ_ne_self, reduceCtorEq, Int.reduceToNat, Int.cast_ofNat_Int, Int.reduceEq, Int.reduceNe, Int.reduceLT, Int.reduceLE, haa]
    refine i_st ho i 1 rfl rfl (by omega) (by omega) fun o hob _ => ?_
    have hob2 : objAt (H.set b6 o) ⟨b6, 0, none⟩ (arrN ns (i + 1)) := by rw [← hput]; exact hob H rfl
    have hle4 : Heap.le h2 (H.set b6 o) := hle.over hb6 o
    generalize H.set b6 o = H2 at *
    try simp (disch := first | omega | (simp only [PL]; omega)) only [PS, P1, P2, P3, P4, P5, P6, P7, P8, PA, PB, PC, Nat.reduceAdd, Nat.reduceSub, Nat.reduceMul, Nat.reduceLeDiff, Nat.reduceEqDiff, Nat.succ_ne_self, reduceCtorEq, Int.reduceToNat, Int.cast_ofNat_Int, Int.reduceEq, Int.reduceNe, Int.reduceLT, Int.reduceLE, hwi]
    refine k_loop (i + 1) (by omega) (by try simp only [Pe, and_true, true_and, and_self]) ⟨hle4, by omega, hob2, fun j hj => ?_⟩
    by_cases hji : j = i
    · rw [hji]; exact hnum
    · exact hok j (by omega)
  rintro env H0 ⟨hle, ho, hok, rfl⟩
  rw [arrN_four hnl, hnd 0 (by omega), hnd 1 (by omega), hnd 2 (by omega), hnd 3 (by omega)] at ho
  have hnm : ∀ j, j < 4 → numv (w.getD j []) ≤ 1000000000 := by
    intro j hj
    have h1 := numv_lt (hok j hj).1.2
    have h2 : 10 ^ (w.getD j []).length ≤ 10 ^ 9 := Nat.pow_le_pow_right (by omega) (hok j hj).1.1
    omega
  have m0 := hnm 0 (by omega)
  have m1 := hnm 1 (by omega)
  have m2 := hnm 2 (by omega)
  have m3 := hnm 3 (by omega)
  have A0 : ∀ h (k : IntKind), o2V h (.aadr 4 1) (.v (.pointer (some ⟨b6, 0, none⟩))) (.v (.int k 0)) = some (.v (.pointer (some ⟨b6, 0, none⟩))) := fun h k => rfl
  have A1 : ∀ h (k : IntKind), o2V h (.aadr 4 1) (.v (.pointer (some ⟨b6, 0, none⟩))) (.v (.int k 1)) = some (.v (.pointer (some ((⟨b6, 0, none⟩ : Addr).add 1)))) := fun h k => rfl
  have A2 : ∀ h (k : IntKind), o2V h (.aadr 4 1) (.v (.pointer (some ⟨b6, 0, none⟩))) (.v (.int k 2)) = some (.v (.pointer (some ((⟨b6, 0, none⟩ : Addr).add 2)))) := fun h k => rfl
  have A3 : ∀ h (k : IntKind), o2V h (.aadr 4 1) (.v (.pointer (some ⟨b6, 0, none⟩))) (.v (.int k 3)) = some (.v (.pointer (some ((⟨b6, 0, none⟩ : Addr).add 3)))) := fun h k => rfl
  have hle00 : Heap.le h H0 := hle1.trans (hle2.trans hle)
  have hdone : (∀ k p, 1 ≤ k → k ≤ 3 → p < 6 → ¬ (¬ (mkT w k p).bad ∧ textOf (mkT w k p) = s)) → ∀ t : Tg, ¬ t.bad → textOf t ≠ s := by
    intro hno t hb ht
    obtain ⟨k, p, q1, q2, q3, q4⟩ := (htag t hb ht).2.2.2
    rw [q4] at hb ht
    exact hno k p q1 q2 q3 ⟨hb, ht⟩
  clear htag hnd ho6 ho6' R R1 R3 hwm
  try simp (disch := first | omega | (simp only [PL]; omega)) only [PS, P1, P2, P3, P4, P5, P6, P7, P8, PA, PB, PC, Nat.reduceAdd, Nat.reduceSub, Nat.reduceMul, Nat.reduceLeDiff, Nat.reduceEqDiff, Nat.succ_ne_self, reduceCtorEq, Int.reduceToNat, Int.cast_ofNat_Int, Int.reduceEq, Int.reduceNe, Int.reduceLT, Int.reduceLE]
  refine i_loop (fun k : Nat => [some (.string (str s)), some (.agg #[.int .i64 0, .int .i64 0, .int .i64 0, .int .i64 0, .int .i64 0, .int .i64 0]), none, none, none, some (.pointer (some ⟨b6, 0, none⟩)), none, none, none, some (.int .i64 (k : Nat)), none, none, none, none, none, none, none, none, none, none, none, none, none, none, none, none]) (fun k H => Heap.le H0 H ∧ 1 ≤ k ∧ k ≤ 4 ∧ ∀ k' p, 1 ≤ k' → k' < k → p < 6 → ¬ (¬ (mkT w k' p).bad ∧ textOf (mkT w k' p) = s)) (fun k => 4 - k) 1 (by try simp only [Pe, and_true, true_and, and_self]; rfl) ⟨Heap.le.refl H0, by omega, by omega, fun k' p h1 h2 => by omega⟩ ?_
  rintro k H ⟨hleH, hk1, hk4, hno⟩
  have hwk : IntKind.i64.wrap ((k : Int) + 1) = ((k + 1 : Nat) : Int) := by rw [w64 (by omega) (by omega)]; omega
  try simp (disch := first | omega | (simp only [PL]; omega)) only [PS, P1, P2, P3, P4, P5, P6, P7, P8, PA, PB, PC, Nat.reduceAdd, Nat.reduceSub, Nat.reduceMul, Nat.reduceLeDiff, Nat.reduceEqDiff, Nat.succ_ne_self, reduceCtorEq, Int.reduceToNat, Int.cast_ofNat_Int, Int.reduceEq, Int.reduceNe, Int.reduceLT, Int.reduceLE]
  refine i_cond (fun c2 => ?_) (fun c2 => ?_)
  rotate_left
  · have : k = 4 := by omega
    subst this
    try simp (disch := first | omega | (simp only [PL]; omega)) only [PS, P1, P2, P3, P4, P5, P6, P7, P8, PA, PB, PC, Nat.reduceAdd, Nat.reduceSub, Nat.reduceMul, Nat.reduceLeDiff, Nat.reduceEqDiff, Nat.succ_ne_self, reduceCtorEq, Int.reduceToNat, Int.cast_ofNat_Int, Int.reduceEq, Int.reduceNe, Int.reduceLT, Int.reduceLE]
    exact hK2 (hdone fun k p h1 h2 h3 => hno k p h1 (by omega) h3) H (hle00.trans hleH)
  have hk3 : k ≤ 3 := by omega
  try simp (disch := first | omega | (simp only [PL]; omega)) only [PS, P1, P2, P3, P4, P5, P6, P7, P8, PA, PB, PC, Nat.reduceAdd, Nat.reduceSub, Nat.reduceMul, Nat.reduceLeDiff, Nat.reduceEqDiff, Nat.succ_ne_self, reduceCtorEq, Int.reduceToNat, Int.cast_ofNat_Int, Int.reduceEq, Int.reduceNe, Int.reduceLT, Int.reduceLE]
  refine i_loop (fun p : Nat => [some (.string (str s)), some (.agg #[.int .i64 0, .int .i64 0, .int .i64 0, .int .i64 0, .int .i64 0, .int .i64 0]), none, none, none, some (.pointer (some ⟨b6, 0, none⟩)), none, none, none, some (.int .i64 (k : Nat)), some (.int .i64 (p : Nat)), none, none, none, none, none, none, none, none, none, none, none, none, none, none, none]) (fun p H => Heap.le H0 H ∧ p ≤ 6 ∧ ∀ p', p' < p → ¬ (¬ (mkT w k p').bad ∧ textOf (mkT w k p') = s)) (fun p => 6 - p) 0 (by try simp only [Pe, and_true, true_and, and_self]; rfl) ⟨hleH, by omega, fun p' h => by omega⟩ ?_
  clear hleH
  rintro p H ⟨hleH, hp, hnp⟩
  have hwp : IntKind.i64.wrap ((p : Int) + 1) = ((p + 1 : Nat) : Int) := by rw [w64 (by omega) (by omega)]; omega
  have B0 : H.cell ⟨b6, 0, none⟩ = some (.int .i64 (numv (w.getD 0 []) : Nat)) := (ho.le hleH).rules.2.1 (by simp)
  have B1 : H.cell ((⟨b6, 0, none⟩ : Addr).add 1) = some (.int .i64 (numv (w.getD 1 []) : Nat)) := (ho.le hleH).rules.1 1 (by simp)
  have B2 : H.cell ((⟨b6, 0, none⟩ : Addr).add 2) = some (.int .i64 (numv (w.getD 2 []) : Nat)) := (ho.le hleH).rules.1 2 (by simp)
  have B3 : H.cell ((⟨b6, 0, none⟩ : Addr).add 3) = some (.int .i64 (numv (w.getD 3 []) : Nat)) := (ho.le hleH).rules.1 3 (by simp)
  try simp (disch := first | omega | (simp only [PL]; omega)) only [PS, P1, P2, P3, P4, P5, P6, P7, P8, PA, PB, PC, Nat.reduceAdd, Nat.reduceSub, Nat.reduceMul, Nat.reduceLeDiff, Nat.reduceEqDiff, Nat.succ_ne_self, reduceCtorEq, Int.reduceToNat, Int.cast_ofNat_Int, Int.reduceEq, Int.reduceNe, Int.reduceLT, Int.reduceLE]
  refine i_cond (fun c3 => ?_) (fun c3 => ?_)
  rotate_left
  · have : p = 6 := by omega
    subst this
    try simp (disch := first | omega | (simp only [PL]; omega)) only [PS, P1, P2, P3, P4, P5, P6, P7, P8, PA, PB, PC, Nat.reduceAdd, Nat.reduceSub, Nat.reduceMul, Nat.reduceLeDiff, Nat.reduceEqDiff, Nat.succ_ne_self, reduceCtorEq, Int.reduceToNat, Int.cast_ofNat_Int, Int.reduceEq, Int.reduceNe, Int.reduceLT, Int.reduceLE, hwk]
    refine k_loop (k + 1) (by omega) (by try simp only [Pe, and_true, true_and, and_self]) ⟨hleH, by omega, by omega, fun k' p' h1 h2 h3 => ?_⟩
    by_cases e : k' = k
    · rw [e]; exact hnp p' h3
    · exact hno k' p' h1 (by omega) h3
  have hp6 : p < 6 := by omega
  try simp (disch := first | omega | (simp only [PL]; omega)) only [PS, P1, P2, P3, P4, P5, P6, P7, P8, PA, PB, PC, Nat.reduceAdd, Nat.reduceSub, Nat.reduceMul, Nat.reduceLeDiff, Nat.reduceEqDiff, Nat.succ_ne_self, reduceCtorEq, Int.reduceToNat, Int.cast_ofNat_Int, Int.reduceEq, Int.reduceNe, Int.reduceLT, Int.reduceLE, A0, A1, A2, A3, B0, B1, B2, B3]
  refine i_call H128 ⟨mkT w k p, rfl, by unfold mkT; dsimp only; omega, by unfold mkT; dsimp only; omega, fun h5 hle5 => ?_⟩
  by_cases hb : (mkT w k p).bad
  · rw [fault_bad hb]
    try simp (disch := first | omega | (simp only [PL]; omega)) only [PS, P1, P2, P3, P4, P5, P6, P7, P8, PA, PB, PC, Nat.reduceAdd, Nat.reduceSub, Nat.reduceMul, Nat.reduceLeDiff, Nat.reduceEqDiff, Nat.succ_ne_self, reduceCtorEq, Int.reduceToNat, Int.cast_ofNat_Int, Int.reduceEq, Int.reduceNe, Int.reduceLT, Int.reduceLE, hwp]
    exact k_loop (p + 1) (by omega) (by try simp only [Pe, and_true, true_and, and_self]) ⟨hleH.trans hle5, by omega, fun p' h => by
      by_cases e : p' = p
      · rw [e]; exact fun h => h.1 hb
      · exact hnp p' (by omega)⟩
  rw [fault_ok hb]
  obtain ⟨a, ha, _⟩ := Tg.good hb
  try simp (disch := first | omega | (simp only [PL]; omega)) only [PS, P1, P2, P3, P4, P5, P6, P7, P8, PA, PB, PC, Nat.reduceAdd, Nat.reduceSub, Nat.reduceMul, Nat.reduceLeDiff, Nat.reduceEqDiff, Nat.succ_ne_self, reduceCtorEq, Int.reduceToNat, Int.cast_ofNat_Int, Int.reduceEq, Int.reduceNe, Int.reduceLT, Int.reduceLE]
  refine i_call H164 ⟨mkT w k p, a, rfl, ha, by unfold mkT; dsimp only; omega, by unfold mkT; dsimp only; omega, by unfold mkT; dsimp only; omega, by unfold mkT; dsimp only; omega, fun h6 hle6 => ?_⟩
  try simp (disch := first | omega | (simp only [PL]; omega)) only [PS, P1, P2, P3, P4, P5, P6, P7, P8, PA, PB, PC, Nat.reduceAdd, Nat.reduceSub, Nat.reduceMul, Nat.reduceLeDiff, Nat.reduceEqDiff, Nat.succ_ne_self, reduceCtorEq, Int.reduceToNat, Int.cast_ofNat_Int, Int.reduceEq, Int.reduceNe, Int.reduceLT, Int.reduceLE]
  refine i_cond (fun c4 => ?_) (fun c4 => ?_)
  · try simp (disch := first | omega | (simp only [PL]; omega)) only [PS, P1, P2, P3, P4, P5, P6, P7, P8, PA, PB, PC, Nat.reduceAdd, Nat.reduceSub, Nat.reduceMul, Nat.reduceLeDiff, Nat.reduceEqDiff, Nat.succ_ne_self, reduceCtorEq, Int.reduceToNat, Int.cast_ofNat_Int, Int.reduceEq, Int.reduceNe, Int.reduceLT, Int.reduceLE]
    exact hK1 _ hb c4 h6 (hle00.trans (hleH.trans (hle5.trans hle6)))
  · try simp (disch := first | omega | (simp only [PL]; omega)) only [PS, P1, P2, P3, P4, P5, P6, P7, P8, PA, PB, PC, Nat.reduceAdd, Nat.reduceSub, Nat.reduceMul, Nat.reduceLeDiff, Nat.reduceEqDiff, Nat.succ_ne_self, reduceCtorEq, Int.reduceToNat, Int.cast_ofNat_Int, Int.reduceEq, Int.reduceNe, Int.reduceLT, Int.reduceLE, hwp]
    exact k_loop (p + 1) (by omega) (by try simp only [Pe, and_true, true_and, and_self]) ⟨hleH.trans (hle5.trans hle6), by omega, fun p' h => by
      by_cases e : p' = p
      · rw [e]; exact fun h => c4 h.2
      · exact hnp p' (by omega)⟩
end Go.Cw
namespace Go.Cw
open Go

theorem seqK_assoc {N : Num} {Γ : Ctx} {Q : SE → Env → Heap → Prop} {b c : St} : seqK N Γ (.seq b c) Q = seqK N Γ b (seqK N Γ c Q) := by
  funext e env h
  cases e <;> rfl
/-- what is done one behind the other, in other parentheses -/
theorem sw_assoc {N : Num} {Γ : Ctx} {Q : SE → Env → Heap → Prop} {a b c : St} {env : Env} {h : Heap} : SW N Γ (.seq a (.seq b c)) Q env h = SW N Γ (.seq (.seq a b) c) Q env h := by
  show SW N Γ a (seqK N Γ (.seq b c) Q) env h = SW N Γ a (seqK N Γ b (seqK N Γ c Q)) env h
  rw [seqK_assoc]
theorem i_seqM {N : Num} {Γ : Ctx} [GoodC Γ] {Q : SE → Env → Heap → Prop} [MonoQ Q] (R : Env → Heap → Prop) {s b : St} {env : Env} {h : Heap} (hb : ∀ env h, R env h → SW N Γ b Q env h) (hx : SW N Γ s (meetK R Q) env h) : SW N Γ (.seq s b) Q env h := by
  show SW N Γ s (seqK N Γ b Q) env h
  exact i_meet R hb hx
def t161 : Tg := ⟨2, 1, 3, 7, 12, 5⟩
theorem good_161 : ¬ t161.bad := by decide
theorem text_161 : textOf t161 = [99, 97, 115, 101, 58, 49, 46, 48, 48, 55, 46, 48, 48, 49, 50, 46, 53] := by
  have e : textOf t161 = textW t161 ⟨10, 3, 16, 4⟩ := rfl
  have d1 : dec 1 = [49] := by rw [dec_lt (by omega)]; decide
  have d7 : dec 7 = [55] := by rw [dec_lt (by omega)]; decide
  have d12 : dec 12 = [49, 50] := by rw [dec_ge (by omega), show 12 / 10 = 1 from rfl, d1]; decide
  have d5 : dec 5 = [53] := by rw [dec_lt (by omega)]; decide
  rw [e]
  have e2 : textW t161 ⟨10, 3, 16, 4⟩ = kname 2 ++ 58 :: (dec 1 ++ 46 :: (padD 7 3 ++ 46 :: (padD 12 4 ++ 46 :: dec 5))) := rfl
  rw [e2]
  unfold padD
  rw [d1, d7, d12, d5]; rfl
def S161 (T : Heap) : Spec := fun args h K => args = [] ∧ Heap.le T h ∧ ∀ h', Heap.le h h' → K (.bool true) h'
theorem F161_ok {N : Num} {Γ : Ctx} [GoodC Γ] {T : Heap} (H163 : Sat (S163 T N) (Γ 163)) (H19 : Sat (S19 N) (Γ 19)) : Sat (S161 T) (SF N Γ F161) := by
  rintro _ h K ⟨rfl, hT, hK⟩
  refine i_fun rfl ?_
  simp only [F161, env0, List.map, List.length, List.replicate, List.cons_append, List.nil_append, Nat.reduceSub, Nat.reduceAdd]
  try simp (disch := first | omega | (simp only [PL]; omega)) only [PS, P1, P2, P3, P4, P5, P6, P7, P8, PA, PB, PC, Nat.reduceAdd, Nat.reduceSub, Nat.reduceMul, Nat.reduceLeDiff, Nat.reduceEqDiff, Nat.succ_ne_self, reduceCtorEq, Int.reduceToNat, Int.cast_ofNat_Int, Int.reduceEq, Int.reduceNe, Int.reduceLT, Int.reduceLE]
  refine i_call H163 ⟨t161, rfl, hT, fun hb => absurd hb good_161, fun _ h1 hle1 => ?_⟩
  rw [text_161]
  try simp (disch := first | omega | (simp only [PL]; omega)) only [PS, P1, P2, P3, P4, P5, P6, P7, P8, PA, PB, PC, Nat.reduceAdd, Nat.reduceSub, Nat.reduceMul, Nat.reduceLeDiff, Nat.reduceEqDiff, Nat.succ_ne_self, reduceCtorEq, Int.reduceToNat, Int.cast_ofNat_Int, Int.reduceEq, Int.reduceNe, Int.reduceLT, Int.reduceLE]
  refine i_call H19 ⟨0, 0, rfl, ?_⟩
  rw [decide_eq_true rfl]
  try simp (disch := first | omega | (simp only [PL]; omega)) only [PS, P1, P2, P3, P4, P5, P6, P7, P8, PA, PB, PC, Nat.reduceAdd, Nat.reduceSub, Nat.reduceMul, Nat.reduceLeDiff, Nat.reduceEqDiff, Nat.succ_ne_self, reduceCtorEq, Int.reduceToNat, Int.cast_ofNat_Int, Int.reduceEq, Int.reduceNe, Int.reduceLT, Int.reduceLE]
  exact hK h1 hle1
theorem aggT_same (h : Heap) (t : Tg) (b : Bool) : o2V h (.eqv (.flat [.int, .int, .int, .int, .int, .int]) b) (.v (aggT t)) (.v (aggT t)) = some (.v (.bool (!b))) := by
  have key : cellsEq [.int, .int, .int, .int, .int, .int] [.int .i64 t.kind, .int .i64 t.filter, .int .i64 t.part, .int .i64 t.company, .int .i64 t.ref, .int .i64 t.serial] [.int .i64 t.kind, .int .i64 t.filter, .int .i64 t.part, .int .i64 t.company, .int .i64 t.ref, .int .i64 t.serial] = some true := by
    simp only [cellsEq_int, cellsEq_nil, if_true]
  simp only [o2V, aggT, eqV]
  rw [key]; cases b <;> rfl
def S158 (T : Heap) : Spec := fun args h K => ∃ t b s, args = [aggT t, .string (str b), .string (str s)] ∧ t.company ≤ 9223372036854775807 ∧ t.ref ≤ 9223372036854775807 ∧ Heap.le T h ∧ ∀ h', Heap.le h h' → K (.bool true) h'
theorem F158_ok {N : Num} {Γ : Ctx} [GoodC Γ] {T : Heap} (H161 : Sat (S161 T) (Γ 161)) (H128 : Sat S128 (Γ 128)) (H162 : Sat (S162 N) (Γ 162)) (H163 : Sat (S163 T N) (Γ 163)) (H108 : Sat (S108 N) (Γ 108)) (H19 : Sat (S19 N) (Γ 19)) (H65 : Sat S65 (Γ 65)) (H164 : Sat S164 (Γ 164)) (H81 : Sat (S81 N) (Γ 81)) (H110 : Sat S110 (Γ 110)) (H165 : Sat (S165 T N) (Γ 165)) (H166 : Sat S166 (Γ 166)) : Sat (S158 T) (SF N Γ F158) := by
  rintro _ h K ⟨t, b, s, rfl, hc, hr, hT, hK⟩
  refine i_fun rfl ?_
  simp only [F158, env0, List.map, List.length, List.replicate, List.cons_append, List.nil_append, Nat.reduceSub, Nat.reduceAdd, aggT]
  iterate 6 rw [sw_assoc]
  refine i_seqM (fun env H => Heap.le h H ∧ b.length ≤ 100 ∧ s.length ≤ 100 ∧ env = [none, some (.string (str b)), some (.string (str s)), none, none, none, none, none, none, none, none, none, none, none, none, none, none, none, none, none, none, none, none, none, none, none, none, none, none, none, none, none, none, none, none, none, none, none, none, none, none, none, none, none, none, none, none, none, none, none, none, none, none, none, none, none, none, none, none, none, none, none, none, none, none, none]) ?_ ?_
  rotate_left
  · try simp (disch := first | omega | (simp only [PL]; omega)) only [PS, P1, P2, P3, P4, P5, P6, P7, P8, PA, PB, PC, Nat.reduceAdd, Nat.reduceSub, Nat.reduceMul, Nat.reduceLeDiff, Nat.reduceEqDiff, Nat.succ_ne_self, reduceCtorEq, Int.reduceToNat, Int.cast_ofNat_Int, Int.reduceEq, Int.reduceNe, Int.reduceLT, Int.reduceLE]
    refine i_call H161 ⟨rfl, hT, fun h1 hle1 => ?_⟩
    try simp (disch := first | omega | (simp only [PL]; omega)) only [PS, P1, P2, P3, P4, P5, P6, P7, P8, PA, PB, PC, Nat.reduceAdd, Nat.reduceSub, Nat.reduceMul, Nat.reduceLeDiff, Nat.reduceEqDiff, Nat.succ_ne_self, reduceCtorEq, Int.reduceToNat, Int.cast_ofNat_Int, Int.reduceEq, Int.reduceNe, Int.reduceLT, Int.reduceLE]
    refine i_cond (fun c1 => ?_) (fun c1 => ?_)
    · try simp (disch := first | omega | (simp only [PL]; omega)) only [PS, P1, P2, P3, P4, P5, P6, P7, P8, PA, PB, PC, Nat.reduceAdd, Nat.reduceSub, Nat.reduceMul, Nat.reduceLeDiff, Nat.reduceEqDiff, Nat.succ_ne_self, reduceCtorEq, Int.reduceToNat, Int.cast_ofNat_Int, Int.reduceEq, Int.reduceNe, Int.reduceLT, Int.reduceLE]
      exact hK h1 hle1
    have hbl : b.length ≤ 100 := by omega
    have hsl : s.length ≤ 100 := by omega
    try simp (disch := first | omega | (simp only [PL]; omega)) only [PS, P1, P2, P3, P4, P5, P6, P7, P8, PA, PB, PC, Nat.reduceAdd, Nat.reduceSub, Nat.reduceMul, Nat.reduceLeDiff, Nat.reduceEqDiff, Nat.succ_ne_self, reduceCtorEq, Int.reduceToNat, Int.cast_ofNat_Int, Int.reduceEq, Int.reduceNe, Int.reduceLT, Int.reduceLE]
    refine i_call H128 ⟨t, rfl, hc, hr, fun h2 hle2 => ?_⟩
    have hle02 := hle1.trans hle2
    try simp (disch := first | omega | (simp only [PL]; omega)) only [PS, P1, P2, P3, P4, P5, P6, P7, P8, PA, PB, PC, Nat.reduceAdd, Nat.reduceSub, Nat.reduceMul, Nat.reduceLeDiff, Nat.reduceEqDiff, Nat.succ_ne_self, reduceCtorEq, Int.reduceToNat, Int.cast_ofNat_Int, Int.reduceEq, Int.reduceNe, Int.reduceLT, Int.reduceLE]
    by_cases hb : t.bad
    · rw [fault_bad hb]
      refine i_call H162 ⟨t, rfl, fun _ h3 hle3 => ?_, fun hn => absurd hb hn⟩
      try simp (disch := first | omega | (simp only [PL]; omega)) only [PS, P1, P2, P3, P4, P5, P6, P7, P8, PA, PB, PC, Nat.reduceAdd, Nat.reduceSub, Nat.reduceMul, Nat.reduceLeDiff, Nat.reduceEqDiff, Nat.succ_ne_self, reduceCtorEq, Int.reduceToNat, Int.cast_ofNat_Int, Int.reduceEq, Int.reduceNe, Int.reduceLT, Int.reduceLE]
      refine i_call H163 ⟨t, rfl, hT.trans (hle02.trans hle3), fun _ h4 hle4 => ?_, fun hn => absurd hb hn⟩
      try simp (disch := first | omega | (simp only [PL]; omega)) only [PS, P1, P2, P3, P4, P5, P6, P7, P8, PA, PB, PC, Nat.reduceAdd, Nat.reduceSub, Nat.reduceMul, Nat.reduceLeDiff, Nat.reduceEqDiff, Nat.succ_ne_self, reduceCtorEq, Int.reduceToNat, Int.cast_ofNat_Int, Int.reduceEq, Int.reduceNe, Int.reduceLT, Int.reduceLE]
      refine i_call H108 ⟨t, rfl, fun h5 hle5 => ?_⟩
      rw [fault_bad hb]
      try simp (disch := first | omega | (simp only [PL]; omega)) only [PS, P1, P2, P3, P4, P5, P6, P7, P8, PA, PB, PC, Nat.reduceAdd, Nat.reduceSub, Nat.reduceMul, Nat.reduceLeDiff, Nat.reduceEqDiff, Nat.succ_ne_self, reduceCtorEq, Int.reduceToNat, Int.cast_ofNat_Int, Int.reduceEq, Int.reduceNe, Int.reduceLT, Int.reduceLE]
      refine i_call H19 ⟨1, 1, rfl, ?_⟩
      rw [decide_eq_true rfl]
      try simp (disch := first | omega | (simp only [PL]; omega)) only [PS, P1, P2, P3, P4, P5, P6, P7, P8, PA, PB, PC, Nat.reduceAdd, Nat.reduceSub, Nat.reduceMul, Nat.reduceLeDiff, Nat.reduceEqDiff, Nat.succ_ne_self, reduceCtorEq, Int.reduceToNat, Int.cast_ofNat_Int, Int.reduceEq, Int.reduceNe, Int.reduceLT, Int.reduceLE]
      refine i_call H19 ⟨1, 1, rfl, ?_⟩
      rw [decide_eq_true rfl]
      try simp (disch := first | omega | (simp only [PL]; omega)) only [PS, P1, P2, P3, P4, P5, P6, P7, P8, PA, PB, PC, Nat.reduceAdd, Nat.reduceSub, Nat.reduceMul, Nat.reduceLeDiff, Nat.reduceEqDiff, Nat.succ_ne_self, reduceCtorEq, Int.reduceToNat, Int.cast_ofNat_Int, Int.reduceEq, Int.reduceNe, Int.reduceLT, Int.reduceLE]
      refine i_call H19 ⟨1, 1, rfl, ?_⟩
      rw [decide_eq_true rfl]
      try simp (disch := first | omega | (simp only [PL]; omega)) only [PS, P1, P2, P3, P4, P5, P6, P7, P8, PA, PB, PC, Nat.reduceAdd, Nat.reduceSub, Nat.reduceMul, Nat.reduceLeDiff, Nat.reduceEqDiff, Nat.succ_ne_self, reduceCtorEq, Int.reduceToNat, Int.cast_ofNat_Int, Int.reduceEq, Int.reduceNe, Int.reduceLT, Int.reduceLE]
      have hnn : (([] : List UInt8) ++ [] ≠ []) = False := by simp
      try simp (disch := first | omega | (simp only [PL]; omega)) only [PS, P1, P2, P3, P4, P5, P6, P7, P8, PA, PB, PC, Nat.reduceAdd, Nat.reduceSub, Nat.reduceMul, Nat.reduceLeDiff, Nat.reduceEqDiff, Nat.succ_ne_self, reduceCtorEq, Int.reduceToNat, Int.cast_ofNat_Int, Int.reduceEq, Int.reduceNe, Int.reduceLT, Int.reduceLE, hnn]
      exact k_meet _ (by try simp only [Pe, and_true, true_and, and_self]) ⟨hle02.trans (hle3.trans (hle4.trans hle5)), hbl, hsl, rfl⟩
    · rw [fault_ok hb]
      obtain ⟨a, ha, k1, k2, f1, f2, s1, s2, cc1, c2, r1, r2⟩ := Tg.good hb
      have p10 : ∀ k, k ≤ 6 → 10 ^ k ≤ 10 ^ 6 := fun k hk => Nat.pow_le_pow_right (by omega) hk
      have hpa := partsOf_some ha
      have p10c := p10 a.cd (by omega)
      have p10r := p10 a.rd (by omega)
      refine i_call H162 ⟨t, rfl, fun hn => absurd hn hb, fun _ h3 hle3 => ?_⟩
      try simp (disch := first | omega | (simp only [PL]; omega)) only [PS, P1, P2, P3, P4, P5, P6, P7, P8, PA, PB, PC, Nat.reduceAdd, Nat.reduceSub, Nat.reduceMul, Nat.reduceLeDiff, Nat.reduceEqDiff, Nat.succ_ne_self, reduceCtorEq, Int.reduceToNat, Int.cast_ofNat_Int, Int.reduceEq, Int.reduceNe, Int.reduceLT, Int.reduceLE]
      refine i_call H163 ⟨t, rfl, hT.trans (hle02.trans hle3), fun hn => absurd hn hb, fun _ h4 hle4 => ?_⟩
      try simp (disch := first | omega | (simp only [PL]; omega)) only [PS, P1, P2, P3, P4, P5, P6, P7, P8, PA, PB, PC, Nat.reduceAdd, Nat.reduceSub, Nat.reduceMul, Nat.reduceLeDiff, Nat.reduceEqDiff, Nat.succ_ne_self, reduceCtorEq, Int.reduceToNat, Int.cast_ofNat_Int, Int.reduceEq, Int.reduceNe, Int.reduceLT, Int.reduceLE]
      refine i_call H108 ⟨t, rfl, fun h5 hle5 => ?_⟩
      rw [fault_ok hb]
      try simp (disch := first | omega | (simp only [PL]; omega)) only [PS, P1, P2, P3, P4, P5, P6, P7, P8, PA, PB, PC, Nat.reduceAdd, Nat.reduceSub, Nat.reduceMul, Nat.reduceLeDiff, Nat.reduceEqDiff, Nat.succ_ne_self, reduceCtorEq, Int.reduceToNat, Int.cast_ofNat_Int, Int.reduceEq, Int.reduceNe, Int.reduceLT, Int.reduceLE]
      refine i_call H19 ⟨0, 0, rfl, ?_⟩
      rw [decide_eq_true rfl]
      try simp (disch := first | omega | (simp only [PL]; omega)) only [PS, P1, P2, P3, P4, P5, P6, P7, P8, PA, PB, PC, Nat.reduceAdd, Nat.reduceSub, Nat.reduceMul, Nat.reduceLeDiff, Nat.reduceEqDiff, Nat.succ_ne_self, reduceCtorEq, Int.reduceToNat, Int.cast_ofNat_Int, Int.reduceEq, Int.reduceNe, Int.reduceLT, Int.reduceLE]
      refine i_call H19 ⟨0, 0, rfl, ?_⟩
      rw [decide_eq_true rfl]
      try simp (disch := first | omega | (simp only [PL]; omega)) only [PS, P1, P2, P3, P4, P5, P6, P7, P8, PA, PB, PC, Nat.reduceAdd, Nat.reduceSub, Nat.reduceMul, Nat.reduceLeDiff, Nat.reduceEqDiff, Nat.succ_ne_self, reduceCtorEq, Int.reduceToNat, Int.cast_ofNat_Int, Int.reduceEq, Int.reduceNe, Int.reduceLT, Int.reduceLE]
      refine i_call H19 ⟨0, 0, rfl, ?_⟩
      rw [decide_eq_true rfl]
      try simp (disch := first | omega | (simp only [PL]; omega)) only [PS, P1, P2, P3, P4, P5, P6, P7, P8, PA, PB, PC, Nat.reduceAdd, Nat.reduceSub, Nat.reduceMul, Nat.reduceLeDiff, Nat.reduceEqDiff, Nat.succ_ne_self, reduceCtorEq, Int.reduceToNat, Int.cast_ofNat_Int, Int.reduceEq, Int.reduceNe, Int.reduceLT, Int.reduceLE]
      refine i_call H65 ⟨t, a, rfl, ha, by omega, by omega, by omega, by omega, by omega, by omega, by omega, by omega, by omega, by omega, fun h6 hle6 => ?_⟩
      try simp (disch := first | omega | (simp only [PL]; omega)) only [PS, P1, P2, P3, P4, P5, P6, P7, P8, PA, PB, PC, Nat.reduceAdd, Nat.reduceSub, Nat.reduceMul, Nat.reduceLeDiff, Nat.reduceEqDiff, Nat.succ_ne_self, reduceCtorEq, Int.reduceToNat, Int.cast_ofNat_Int, Int.reduceEq, Int.reduceNe, Int.reduceLT, Int.reduceLE]
      refine i_call H164 ⟨t, a, rfl, ha, by omega, by omega, by omega, by omega, fun h7 hle7 => ?_⟩
      try simp (disch := first | omega | (simp only [PL]; omega)) only [PS, P1, P2, P3, P4, P5, P6, P7, P8, PA, PB, PC, Nat.reduceAdd, Nat.reduceSub, Nat.reduceMul, Nat.reduceLeDiff, Nat.reduceEqDiff, Nat.succ_ne_self, reduceCtorEq, Int.reduceToNat, Int.cast_ofNat_Int, Int.reduceEq, Int.reduceNe, Int.reduceLT, Int.reduceLE]
      exact k_meet _ (by try simp only [Pe, and_true, true_and, and_self]) ⟨hle02.trans (hle3.trans (hle4.trans (hle5.trans (hle6.trans hle7)))), hbl, hsl, rfl⟩
  rintro env H ⟨hle, hbl, hsl, rfl⟩
  iterate 2 rw [sw_assoc]
  refine i_seqM (fun env H => Heap.le h H ∧ env = [none, none, some (.string (str s)), none, none, none, none, none, none, none, none, none, none, none, none, none, none, none, none, none, none, none, none, none, none, none, none, none, none, none, none, none, none, none, none, none, none, none, none, none, none, none, none, none, none, none, none, none, none, none, none, none, none, none, none, none, none, none, none, none, none, none, none, none, none, none]) ?_ ?_
  rotate_left
  · try simp (disch := first | omega | (simp only [PL]; omega)) only [PS, P1, P2, P3, P4, P5, P6, P7, P8, PA, PB, PC, Nat.reduceAdd, Nat.reduceSub, Nat.reduceMul, Nat.reduceLeDiff, Nat.reduceEqDiff, Nat.succ_ne_self, reduceCtorEq, Int.reduceToNat, Int.cast_ofNat_Int, Int.reduceEq, Int.reduceNe, Int.reduceLT, Int.reduceLE]
    refine i_call H81 ⟨b, rfl, fun h1 hle1 => ?_⟩
    unfold tgV
    cases htg : tagOf b with
    | none =>
      have sm := fun h bb => aggT_same h Tg.zero bb
      simp only [aggT, Option.getD, Option.isSome, Bool.false_eq_true, if_false] at sm ⊢
      try simp (disch := first | omega | (simp only [PL]; omega)) only [PS, P1, P2, P3, P4, P5, P6, P7, P8, PA, PB, PC, Nat.reduceAdd, Nat.reduceSub, Nat.reduceMul, Nat.reduceLeDiff, Nat.reduceEqDiff, Nat.succ_ne_self, reduceCtorEq, Int.reduceToNat, Int.cast_ofNat_Int, Int.reduceEq, Int.reduceNe, Int.reduceLT, Int.reduceLE]
      refine i_call H110 ⟨b, rfl, fun h2 hle2 => ?_⟩
      unfold tgV
      rw [htg]
      simp only [aggT, Option.getD, Option.isSome]
      try simp (disch := first | omega | (simp only [PL]; omega)) only [PS, P1, P2, P3, P4, P5, P6, P7, P8, PA, PB, PC, Nat.reduceAdd, Nat.reduceSub, Nat.reduceMul, Nat.reduceLeDiff, Nat.reduceEqDiff, Nat.succ_ne_self, reduceCtorEq, Int.reduceToNat, Int.cast_ofNat_Int, Int.reduceEq, Int.reduceNe, Int.reduceLT, Int.reduceLE, sm]
      refine i_call H19 ⟨3, 0, rfl, ?_⟩
      rw [decide_eq_false (by decide)]
      try simp (disch := first | omega | (simp only [PL]; omega)) only [PS, P1, P2, P3, P4, P5, P6, P7, P8, PA, PB, PC, Nat.reduceAdd, Nat.reduceSub, Nat.reduceMul, Nat.reduceLeDiff, Nat.reduceEqDiff, Nat.succ_ne_self, reduceCtorEq, Int.reduceToNat, Int.cast_ofNat_Int, Int.reduceEq, Int.reduceNe, Int.reduceLT, Int.reduceLE]
      refine i_call H19 ⟨3, 3, rfl, ?_⟩
      rw [decide_eq_true rfl]
      try simp (disch := first | omega | (simp only [PL]; omega)) only [PS, P1, P2, P3, P4, P5, P6, P7, P8, PA, PB, PC, Nat.reduceAdd, Nat.reduceSub, Nat.reduceMul, Nat.reduceLeDiff, Nat.reduceEqDiff, Nat.succ_ne_self, reduceCtorEq, Int.reduceToNat, Int.cast_ofNat_Int, Int.reduceEq, Int.reduceNe, Int.reduceLT, Int.reduceLE]
      exact k_meet _ (by try simp only [Pe, and_true, true_and, and_self]) ⟨hle.trans (hle1.trans hle2), rfl⟩
    | some u =>
      have sm := fun h bb => aggT_same h u bb
      simp only [aggT, Option.getD, Option.isSome, if_true] at sm ⊢
      try simp (disch := first | omega | (simp only [PL]; omega)) only [PS, P1, P2, P3, P4, P5, P6, P7, P8, PA, PB, PC, Nat.reduceAdd, Nat.reduceSub, Nat.reduceMul, Nat.reduceLeDiff, Nat.reduceEqDiff, Nat.succ_ne_self, reduceCtorEq, Int.reduceToNat, Int.cast_ofNat_Int, Int.reduceEq, Int.reduceNe, Int.reduceLT, Int.reduceLE]
      refine i_call H110 ⟨b, rfl, fun h2 hle2 => ?_⟩
      unfold tgV
      rw [htg]
      simp only [aggT, Option.getD, Option.isSome]
      try simp (disch := first | omega | (simp only [PL]; omega)) only [PS, P1, P2, P3, P4, P5, P6, P7, P8, PA, PB, PC, Nat.reduceAdd, Nat.reduceSub, Nat.reduceMul, Nat.reduceLeDiff, Nat.reduceEqDiff, Nat.succ_ne_self, reduceCtorEq, Int.reduceToNat, Int.cast_ofNat_Int, Int.reduceEq, Int.reduceNe, Int.reduceLT, Int.reduceLE, sm]
      refine i_call H19 ⟨0, 0, rfl, ?_⟩
      rw [decide_eq_true rfl]
      try simp (disch := first | omega | (simp only [PL]; omega)) only [PS, P1, P2, P3, P4, P5, P6, P7, P8, PA, PB, PC, Nat.reduceAdd, Nat.reduceSub, Nat.reduceMul, Nat.reduceLeDiff, Nat.reduceEqDiff, Nat.succ_ne_self, reduceCtorEq, Int.reduceToNat, Int.cast_ofNat_Int, Int.reduceEq, Int.reduceNe, Int.reduceLT, Int.reduceLE]
      exact k_meet _ (by try simp only [Pe, and_true, true_and, and_self]) ⟨hle.trans (hle1.trans hle2), rfl⟩
  clear hle
  rintro env H ⟨hle, rfl⟩
  try simp (disch := first | omega | (simp only [PL]; omega)) only [PS, P1, P2, P3, P4, P5, P6, P7, P8, PA, PB, PC, Nat.reduceAdd, Nat.reduceSub, Nat.reduceMul, Nat.reduceLeDiff, Nat.reduceEqDiff, Nat.succ_ne_self, reduceCtorEq, Int.reduceToNat, Int.cast_ofNat_Int, Int.reduceEq, Int.reduceNe, Int.reduceLT, Int.reduceLE]
  refine i_call H165 ⟨s, rfl, by omega, hT.trans hle, fun u hub hut h1 hle1 => ?_, fun hno h1 hle1 => ?_⟩
  · have sm := fun h bb => aggT_same h u bb
    simp only [aggT] at sm ⊢
    try simp (disch := first | omega | (simp only [PL]; omega)) only [PS, P1, P2, P3, P4, P5, P6, P7, P8, PA, PB, PC, Nat.reduceAdd, Nat.reduceSub, Nat.reduceMul, Nat.reduceLeDiff, Nat.reduceEqDiff, Nat.succ_ne_self, reduceCtorEq, Int.reduceToNat, Int.cast_ofNat_Int, Int.reduceEq, Int.reduceNe, Int.reduceLT, Int.reduceLE]
    refine i_call H166 ⟨s, rfl, by omega, fun u' hub' hut' h2 hle2 => ?_, fun hno h2 hle2 => absurd hut (hno u hub)⟩
    obtain rfl : u' = u := textOf_inj hub' hub (hut'.trans hut.symm)
    simp only [aggT]
    try simp (disch := first | omega | (simp only [PL]; omega)) only [PS, P1, P2, P3, P4, P5, P6, P7, P8, PA, PB, PC, Nat.reduceAdd, Nat.reduceSub, Nat.reduceMul, Nat.reduceLeDiff, Nat.reduceEqDiff, Nat.succ_ne_self, reduceCtorEq, Int.reduceToNat, Int.cast_ofNat_Int, Int.reduceEq, Int.reduceNe, Int.reduceLT, Int.reduceLE, sm]
    refine i_call H19 ⟨0, 0, rfl, ?_⟩
    rw [decide_eq_true rfl]
    try simp (disch := first | omega | (simp only [PL]; omega)) only [PS, P1, P2, P3, P4, P5, P6, P7, P8, PA, PB, PC, Nat.reduceAdd, Nat.reduceSub, Nat.reduceMul, Nat.reduceLeDiff, Nat.reduceEqDiff, Nat.succ_ne_self, reduceCtorEq, Int.reduceToNat, Int.cast_ofNat_Int, Int.reduceEq, Int.reduceNe, Int.reduceLT, Int.reduceLE]
    exact hK h2 (hle.trans (hle1.trans hle2))
  · have sm := fun h bb => aggT_same h Tg.zero bb
    simp only [aggT] at sm ⊢
    try simp (disch := first | omega | (simp only [PL]; omega)) only [PS, P1, P2, P3, P4, P5, P6, P7, P8, PA, PB, PC, Nat.reduceAdd, Nat.reduceSub, Nat.reduceMul, Nat.reduceLeDiff, Nat.reduceEqDiff, Nat.succ_ne_self, reduceCtorEq, Int.reduceToNat, Int.cast_ofNat_Int, Int.reduceEq, Int.reduceNe, Int.reduceLT, Int.reduceLE]
    refine i_call H166 ⟨s, rfl, by omega, fun u' hub' hut' h2 hle2 => absurd hut' (hno u' hub'), fun _ h2 hle2 => ?_⟩
    simp only [aggT]
    try simp (disch := first | omega | (simp only [PL]; omega)) only [PS, P1, P2, P3, P4, P5, P6, P7, P8, PA, PB, PC, Nat.reduceAdd, Nat.reduceSub, Nat.reduceMul, Nat.reduceLeDiff, Nat.reduceEqDiff, Nat.succ_ne_self, reduceCtorEq, Int.reduceToNat, Int.cast_ofNat_Int, Int.reduceEq, Int.reduceNe, Int.reduceLT, Int.reduceLE, sm]
    refine i_call H19 ⟨4, 0, rfl, ?_⟩
    rw [decide_eq_false (by decide)]
    try simp (disch := first | omega | (simp only [PL]; omega)) only [PS, P1, P2, P3, P4, P5, P6, P7, P8, PA, PB, PC, Nat.reduceAdd, Nat.reduceSub, Nat.reduceMul, Nat.reduceLeDiff, Nat.reduceEqDiff, Nat.succ_ne_self, reduceCtorEq, Int.reduceToNat, Int.cast_ofNat_Int, Int.reduceEq, Int.reduceNe, Int.reduceLT, Int.reduceLE]
    refine i_call H19 ⟨4, 4, rfl, ?_⟩
    rw [decide_eq_true rfl]
    try simp (disch := first | omega | (simp only [PL]; omega)) only [PS, P1, P2, P3, P4, P5, P6, P7, P8, PA, PB, PC, Nat.reduceAdd, Nat.reduceSub, Nat.reduceMul, Nat.reduceLeDiff, Nat.reduceEqDiff, Nat.succ_ne_self, reduceCtorEq, Int.reduceToNat, Int.cast_ofNat_Int, Int.reduceEq, Int.reduceNe, Int.reduceLT, Int.reduceLE]
    exact hK h2 (hle.trans (hle1.trans hle2))
end Go.Cw
namespace Go.Cw
open Go

theorem num8 {b : List UInt8} (h : b.length = 8) : num b = ((((((((b.getD 0 0).toNat * 256 + (b.getD 1 0).toNat) * 256 + (b.getD 2 0).toNat) * 256 + (b.getD 3 0).toNat) * 256 + (b.getD 4 0).toNat) * 256 + (b.getD 5 0).toNat) * 256 + (b.getD 6 0).toNat) * 256 + (b.getD 7 0).toNat) := by
  match b, h with
  | [a0, a1, a2, a3, a4, a5, a6, a7], _ => simp [num]
theorem num_inj {b c : List UInt8} (hb : b.length = 8) (hc : c.length = 8) (h : num b = num c) : b = c := by
  apply List.ext_getElem (by omega)
  intro i h1 h2
  have e1 := byte_num hb (j := i) (by omega)
  have e2 := byte_num hc (j := i) (by omega)
  rw [h, ← e2, List.getD_eq_getElem?_getD, List.getD_eq_getElem?_getD, List.getElem?_eq_getElem h1, List.getElem?_eq_getElem h2] at e1
  exact UInt8.toNat_inj.1 e1
theorem num_pack {B : List Bool} (hB : B.length = 64) : num (packB B) = valB B := by
  have hl := valB_lt B
  rw [hB] at hl
  have hx : ∀ i, i < 8 → ((packB B).getD i 0).toNat = valB B / 2 ^ (56 - 8 * i) % 256 := by
    intro i hi
    rw [packB_num hB hi]; simp
  rw [num8 (packB_len B), hx 0 (by omega), hx 1 (by omega), hx 2 (by omega), hx 3 (by omega), hx 4 (by omega), hx 5 (by omega), hx 6 (by omega), hx 7 (by omega)]
  generalize valB B = n at *
  simp only [Nat.reduceMul, Nat.reduceSub, Nat.reducePow] at *
  omega
theorem bytesOf_len (t : Tg) : (bytesOf t).length = 8 := packB_len _
theorem num_bytes {t : Tg} {a : Pa} (h : ¬ t.bad) (ha : partsOf t.part = some a) : num (bytesOf t) = accN (47 + t.kind).toNat (fieldsOf t a) := by
  have e : bytesOf t = packB (tagBits t a) := by unfold bytesOf; rw [ha]; rfl
  rw [e, num_pack (tagBits_len t ha), valB_fields h ha]
theorem acc_read {kn fn pn cn rn sn : Nat} {a : Pa} (ha : partsOf (pn : Int) = some a) (h1 : fn < 8) (h2 : cn < 2 ^ a.cb) (h3 : rn < 2 ^ a.rb) (h4 : sn < 2 ^ 24) (n : Nat) (hn : n = ((((kn * 2 ^ 3 + fn) * 2 ^ 3 + pn) * 2 ^ a.cb + cn) * 2 ^ a.rb + rn) * 2 ^ 24 + sn) :
    n / 2 ^ 50 % 8 = pn ∧ n / 2 ^ 56 = kn ∧ n / 2 ^ 53 % 8 = fn ∧ n / 2 ^ (24 + a.rb) % 2 ^ a.cb = cn ∧ n / 2 ^ 24 % 2 ^ a.rb = rn ∧ n % 2 ^ 24 = sn := by
  unfold partsOf at ha
  repeat' split at ha
  all_goals first
    | (cases ha; done)
    | (cases ha; simp only [Nat.reducePow, Nat.reduceAdd] at *; refine ⟨?_, ?_, ?_, ?_, ?_, ?_⟩ <;> omega)
theorem read_acc {n : Nat} {a : Pa} (ha : partsOf ((n / 2 ^ 50 % 8 : Nat) : Int) = some a) : ((((n / 2 ^ 56 * 2 ^ 3 + n / 2 ^ 53 % 8) * 2 ^ 3 + n / 2 ^ 50 % 8) * 2 ^ a.cb + n / 2 ^ (24 + a.rb) % 2 ^ a.cb) * 2 ^ a.rb + n / 2 ^ 24 % 2 ^ a.rb) * 2 ^ 24 + n % 2 ^ 24 = n := by
  unfold partsOf at ha
  repeat' split at ha
  all_goals first
    | (cases ha; done)
    | (cases ha; simp only [Nat.reducePow, Nat.reduceAdd] at *; omega)
/-- a tag's bytes are read as it -/
theorem tagOf_bytes {t : Tg} (h : ¬ t.bad) : tagOf (bytesOf t) = some t := by
  obtain ⟨a, ha, k1, k2, f1, f2, s1, s2, c1, c2, r1, r2⟩ := Tg.good h
  have hl := fields_lt h ha
  have hn := num_bytes h ha
  simp only [fieldsOf, List.mem_cons, List.not_mem_nil, or_false, forall_eq_or_imp, forall_eq] at hl
  obtain ⟨l1, l2, l3, l4, l5⟩ := hl
  have hp : 0 ≤ t.part := by
    refine Classical.byContradiction fun hc => ?_
    rw [partsOf_none.2 (by omega)] at ha; cases ha
  have epn : ((t.part.toNat : Nat) : Int) = t.part := by omega
  obtain ⟨q0, q1, q2, q3, q4, q5⟩ := acc_read (kn := (47 + t.kind).toNat) (pn := t.part.toNat) (by rw [epn]; exact ha) l1 l3 l4 l5 (num (bytesOf t)) (by rw [hn]; rfl)
  unfold tagOf
  rw [if_neg (by rw [bytesOf_len]; simp), q0, epn, ha]
  have key : tagAt (num (bytesOf t)) a = t := by
    unfold tagAt
    rw [q0, q1, q2, q3, q4, q5]
    cases t
    dsimp only at *
    simp only [Tg.mk.injEq]
    refine ⟨?_, ?_, ?_, ?_, ?_, ?_⟩ <;> omega
  dsimp only
  rw [key, if_neg h]
/-- what is read of bytes has these bytes -/
theorem bytes_tagOf {b : List UInt8} {t : Tg} (h : tagOf b = some t) : ¬ t.bad ∧ bytesOf t = b := by
  unfold tagOf at h
  split at h
  · cases h
  rename_i hb8
  have hb8' : b.length = 8 := Decidable.not_not.1 hb8
  split at h
  · cases h
  rename_i a ha
  split at h <;> cases h
  rename_i hbad
  refine ⟨hbad, num_inj (bytesOf_len _) hb8' ?_⟩
  have hpa : partsOf (tagAt (num b) a).part = some a := ha
  rw [num_bytes hbad hpa]
  have := read_acc ha
  unfold fieldsOf accN tagAt
  simp only [List.foldl_cons, List.foldl_nil, Int.toNat_natCast]
  have hk : (47 + (((num b / 2 ^ 56 : Nat) : Int) - 47)).toNat = num b / 2 ^ 56 := by omega
  rw [hk]
  exact this
theorem bytesOf_inj {t u : Tg} (h1 : ¬ t.bad) (h2 : ¬ u.bad) (h : bytesOf t = bytesOf u) : t = u := by
  have := tagOf_bytes h1
  rw [h, tagOf_bytes h2] at this
  cases this; rfl
end Go.Cw
namespace Go.Cw
open Go

theorem aggT_eq (h : Heap) (o t : Tg) (b : Bool) : o2V h (.eqv (.flat [.int, .int, .int, .int, .int, .int]) b) (.v (aggT o)) (.v (aggT t)) = some (.v (.bool (if b then decide (o ≠ t) else decide (o = t)))) := by
  have key : cellsEq [.int, .int, .int, .int, .int, .int] [.int .i64 o.kind, .int .i64 o.filter, .int .i64 o.part, .int .i64 o.company, .int .i64 o.ref, .int .i64 o.serial] [.int .i64 t.kind, .int .i64 t.filter, .int .i64 t.part, .int .i64 t.company, .int .i64 t.ref, .int .i64 t.serial] = some (decide (o = t)) := by
    simp only [cellsEq_int, cellsEq_nil]
    obtain ⟨a1, a2, a3, a4, a5, a6⟩ := o
    obtain ⟨b1, b2, b3, b4, b5, b6⟩ := t
    simp only [Tg.mk.injEq]
    by_cases h1 : a1 = b1
    · by_cases h2 : a2 = b2
      · by_cases h3 : a3 = b3
        · by_cases h4 : a4 = b4
          · by_cases h5 : a5 = b5
            · by_cases h6 : a6 = b6 <;> simp [h1, h2, h3, h4, h5, h6]
            · simp [h1, h2, h3, h4, h5]
          · simp [h1, h2, h3, h4]
        · simp [h1, h2, h3]
      · simp [h1, h2]
    · simp [h1]
  simp only [o2V, aggT, eqV]
  rw [key]
  cases b
  · rfl
  · by_cases e : o = t
    · simp [e]
    · simp [e]
theorem tag_289 : tagOf [48, 0, 0, 0, 0, 0, 0, 7] = some ⟨1, 0, 0, 0, 0, 7⟩ := by decide
def S289 (T : Heap) : Spec := fun args h K => ∃ t o b s, args = [aggT t, aggT o, .string (str b), .string (str s)] ∧ Heap.le T h ∧ ∀ h', Heap.le h h' → K (.bool true) h'
theorem F289_ok {N : Num} {Γ : Ctx} [GoodC Γ] {T : Heap} (H162 : Sat (S162 N) (Γ 162)) (H163 : Sat (S163 T N) (Γ 163)) (H81 : Sat (S81 N) (Γ 81)) (H108 : Sat (S108 N) (Γ 108)) (H165 : Sat (S165 T N) (Γ 165)) : Sat (S289 T) (SF N Γ F289) := by
  rintro _ h K ⟨t, o, b, s, rfl, hT, hK⟩
  refine i_fun rfl ?_
  simp only [F289, env0, List.map, List.length, List.replicate, List.cons_append, List.nil_append, Nat.reduceSub, Nat.reduceAdd, aggT]
  iterate 6 rw [sw_assoc]
  refine i_seqM (fun env H => Heap.le h H ∧ env = [none, none, some (.string (str b)), some (.string (str s)), none, none, none, none, none, none, none, none, none, none, none, none, none, none, none, none, none, none, none, none, none, none, none, none, none, none, none, none, none, none, none, none, none, none, none, none, none, none, none, none, none, none, none, none, none, none, none, none, none, none, none, none, none, none, none, none, none, none, none]) ?_ ?_
  rotate_left
  · try simp (disch := first | omega | (simp only [PL]; omega)) only [PS, P1, P2, P3, P4, P5, P6, P7, P8, PA, PB, PC, Nat.reduceAdd, Nat.reduceSub, Nat.reduceMul, Nat.reduceLeDiff, Nat.reduceEqDiff, Nat.succ_ne_self, reduceCtorEq, Int.reduceToNat, Int.cast_ofNat_Int, Int.reduceEq, Int.reduceNe, Int.reduceLT, Int.reduceLE]
    by_cases hb : t.bad
    · refine i_call H162 ⟨t, rfl, fun _ h1 hle1 => ?_, fun hn => absurd hb hn⟩
      try simp (disch := first | omega | (simp only [PL]; omega)) only [PS, P1, P2, P3, P4, P5, P6, P7, P8, PA, PB, PC, Nat.reduceAdd, Nat.reduceSub, Nat.reduceMul, Nat.reduceLeDiff, Nat.reduceEqDiff, Nat.succ_ne_self, reduceCtorEq, Int.reduceToNat, Int.cast_ofNat_Int, Int.reduceEq, Int.reduceNe, Int.reduceLT, Int.reduceLE]
      refine i_call H163 ⟨t, rfl, hT.trans hle1, fun _ h2 hle2 => ?_, fun hn => absurd hb hn⟩
      try simp (disch := first | omega | (simp only [PL]; omega)) only [PS, P1, P2, P3, P4, P5, P6, P7, P8, PA, PB, PC, Nat.reduceAdd, Nat.reduceSub, Nat.reduceMul, Nat.reduceLeDiff, Nat.reduceEqDiff, Nat.succ_ne_self, reduceCtorEq, Int.reduceToNat, Int.cast_ofNat_Int, Int.reduceEq, Int.reduceNe, Int.reduceLT, Int.reduceLE]
      refine i_call H81 ⟨[48, 0, 0, 0, 0, 0, 0, 7], rfl, fun h3 hle3 => ?_⟩
      unfold tgV
      rw [tag_289]
      simp only [aggT, Option.getD, Option.isSome, if_true]
      try simp (disch := first | omega | (simp only [PL]; omega)) only [PS, P1, P2, P3, P4, P5, P6, P7, P8, PA, PB, PC, Nat.reduceAdd, Nat.reduceSub, Nat.reduceMul, Nat.reduceLeDiff, Nat.reduceEqDiff, Nat.succ_ne_self, reduceCtorEq, Int.reduceToNat, Int.cast_ofNat_Int, Int.reduceEq, Int.reduceNe, Int.reduceLT, Int.reduceLE, errV_zero, errV_succ]
      refine i_call H108 ⟨t, rfl, fun h4 hle4 => ?_⟩
      rw [fault_bad hb]
      try simp (disch := first | omega | (simp only [PL]; omega)) only [PS, P1, P2, P3, P4, P5, P6, P7, P8, PA, PB, PC, Nat.reduceAdd, Nat.reduceSub, Nat.reduceMul, Nat.reduceLeDiff, Nat.reduceEqDiff, Nat.succ_ne_self, reduceCtorEq, Int.reduceToNat, Int.cast_ofNat_Int, Int.reduceEq, Int.reduceNe, Int.reduceLT, Int.reduceLE, errV_succ]
      exact k_meet _ (by try simp only [Pe, and_true, true_and, and_self]) ⟨hle1.trans (hle2.trans (hle3.trans hle4)), rfl⟩
    refine i_call H162 ⟨t, rfl, fun hn => absurd hn hb, fun _ h1 hle1 => ?_⟩
    try simp (disch := first | omega | (simp only [PL]; omega)) only [PS, P1, P2, P3, P4, P5, P6, P7, P8, PA, PB, PC, Nat.reduceAdd, Nat.reduceSub, Nat.reduceMul, Nat.reduceLeDiff, Nat.reduceEqDiff, Nat.succ_ne_self, reduceCtorEq, Int.reduceToNat, Int.cast_ofNat_Int, Int.reduceEq, Int.reduceNe, Int.reduceLT, Int.reduceLE]
    refine i_call H163 ⟨t, rfl, hT.trans hle1, fun hn => absurd hn hb, fun _ h2 hle2 => ?_⟩
    try simp (disch := first | omega | (simp only [PL]; omega)) only [PS, P1, P2, P3, P4, P5, P6, P7, P8, PA, PB, PC, Nat.reduceAdd, Nat.reduceSub, Nat.reduceMul, Nat.reduceLeDiff, Nat.reduceEqDiff, Nat.succ_ne_self, reduceCtorEq, Int.reduceToNat, Int.cast_ofNat_Int, Int.reduceEq, Int.reduceNe, Int.reduceLT, Int.reduceLE]
    refine i_call H81 ⟨[48, 0, 0, 0, 0, 0, 0, 7], rfl, fun h3 hle3 => ?_⟩
    unfold tgV
    rw [tag_289]
    simp only [aggT, Option.getD, Option.isSome, if_true]
    try simp (disch := first | omega | (simp only [PL]; omega)) only [PS, P1, P2, P3, P4, P5, P6, P7, P8, PA, PB, PC, Nat.reduceAdd, Nat.reduceSub, Nat.reduceMul, Nat.reduceLeDiff, Nat.reduceEqDiff, Nat.succ_ne_self, reduceCtorEq, Int.reduceToNat, Int.cast_ofNat_Int, Int.reduceEq, Int.reduceNe, Int.reduceLT, Int.reduceLE, errV_zero, errV_succ]
    refine i_call H108 ⟨t, rfl, fun h4 hle4 => ?_⟩
    rw [fault_ok hb]
    have hle04 := hle1.trans (hle2.trans (hle3.trans hle4))
    try simp (disch := first | omega | (simp only [PL]; omega)) only [PS, P1, P2, P3, P4, P5, P6, P7, P8, PA, PB, PC, Nat.reduceAdd, Nat.reduceSub, Nat.reduceMul, Nat.reduceLeDiff, Nat.reduceEqDiff, Nat.succ_ne_self, reduceCtorEq, Int.reduceToNat, Int.cast_ofNat_Int, Int.reduceEq, Int.reduceNe, Int.reduceLT, Int.reduceLE, errV_zero]
    refine i_call H81 ⟨bytesOf t, rfl, fun h5 hle5 => ?_⟩
    unfold tgV
    rw [tagOf_bytes hb]
    have sm := fun h bb => aggT_same h t bb
    have smo := fun h bb => aggT_eq h o t bb
    simp only [aggT, Option.getD, Option.isSome, if_true] at sm smo ⊢
    have hts : (textOf t).length ≤ 1000000 := by
      obtain ⟨a, ha, k1, k2, f1, f2, s1, s2, cc1, c2, r1, r2⟩ := Tg.good hb
      obtain ⟨a', ha', _, _, _, _, l1, l2, l3, l4, _, l5, l6, _⟩ := text_read hb
      rw [ha] at ha'; cases ha'
      have e : textOf t = textW t a := by unfold textOf; rw [ha]; rfl
      have := kname_len t.kind
      rw [e]; unfold textW textA
      simp only [List.length_append, List.length_cons]; omega
    try simp (disch := first | omega | (simp only [PL]; omega)) only [PS, P1, P2, P3, P4, P5, P6, P7, P8, PA, PB, PC, Nat.reduceAdd, Nat.reduceSub, Nat.reduceMul, Nat.reduceLeDiff, Nat.reduceEqDiff, Nat.succ_ne_self, reduceCtorEq, Int.reduceToNat, Int.cast_ofNat_Int, Int.reduceEq, Int.reduceNe, Int.reduceLT, Int.reduceLE, errV_zero]
    refine i_call H165 ⟨textOf t, rfl, hts, hT.trans (hle04.trans hle5), fun t' hb' ht' h6 hle6 => ?_, fun hno => absurd rfl (hno t hb)⟩
    obtain rfl : t' = t := textOf_inj hb' hb ht'
    simp only [aggT]
    have hle06 := hle04.trans (hle5.trans hle6)
    try simp (disch := first | omega | (simp only [PL]; omega)) only [PS, P1, P2, P3, P4, P5, P6, P7, P8, PA, PB, PC, Nat.reduceAdd, Nat.reduceSub, Nat.reduceMul, Nat.reduceLeDiff, Nat.reduceEqDiff, Nat.succ_ne_self, reduceCtorEq, Int.reduceToNat, Int.cast_ofNat_Int, Int.reduceEq, Int.reduceNe, Int.reduceLT, Int.reduceLE, sm]
    by_cases hbo : o.bad
    · refine i_call H162 ⟨o, rfl, fun _ h7 hle7 => ?_, fun hn => absurd hbo hn⟩
      try simp (disch := first | omega | (simp only [PL]; omega)) only [PS, P1, P2, P3, P4, P5, P6, P7, P8, PA, PB, PC, Nat.reduceAdd, Nat.reduceSub, Nat.reduceMul, Nat.reduceLeDiff, Nat.reduceEqDiff, Nat.succ_ne_self, reduceCtorEq, Int.reduceToNat, Int.cast_ofNat_Int, Int.reduceEq, Int.reduceNe, Int.reduceLT, Int.reduceLE, errV_succ]
      refine i_call H163 ⟨o, rfl, hT.trans (hle06.trans hle7), fun _ h8 hle8 => ?_, fun hn => absurd hbo hn⟩
      try simp (disch := first | omega | (simp only [PL]; omega)) only [PS, P1, P2, P3, P4, P5, P6, P7, P8, PA, PB, PC, Nat.reduceAdd, Nat.reduceSub, Nat.reduceMul, Nat.reduceLeDiff, Nat.reduceEqDiff, Nat.succ_ne_self, reduceCtorEq, Int.reduceToNat, Int.cast_ofNat_Int, Int.reduceEq, Int.reduceNe, Int.reduceLT, Int.reduceLE, errV_succ]
      exact k_meet _ (by try simp only [Pe, and_true, true_and, and_self]) ⟨hle06.trans (hle7.trans hle8), rfl⟩
    refine i_call H162 ⟨o, rfl, fun hn => absurd hn hbo, fun _ h7 hle7 => ?_⟩
    try simp (disch := first | omega | (simp only [PL]; omega)) only [PS, P1, P2, P3, P4, P5, P6, P7, P8, PA, PB, PC, Nat.reduceAdd, Nat.reduceSub, Nat.reduceMul, Nat.reduceLeDiff, Nat.reduceEqDiff, Nat.succ_ne_self, reduceCtorEq, Int.reduceToNat, Int.cast_ofNat_Int, Int.reduceEq, Int.reduceNe, Int.reduceLT, Int.reduceLE]
    refine i_call H163 ⟨o, rfl, hT.trans (hle06.trans hle7), fun hn => absurd hn hbo, fun _ h8 hle8 => ?_⟩
    by_cases hot : o = t'
    · subst hot
      have e1 : (bytesOf o = bytesOf o) = True := eq_self _
      have e2 : (textOf o = textOf o) = True := eq_self _
      try simp (disch := first | omega | (simp only [PL]; omega)) only [PS, P1, P2, P3, P4, P5, P6, P7, P8, PA, PB, PC, Nat.reduceAdd, Nat.reduceSub, Nat.reduceMul, Nat.reduceLeDiff, Nat.reduceEqDiff, Nat.succ_ne_self, reduceCtorEq, Int.reduceToNat, Int.cast_ofNat_Int, Int.reduceEq, Int.reduceNe, Int.reduceLT, Int.reduceLE, sm, e1, e2]
      exact k_meet _ (by try simp only [Pe, and_true, true_and, and_self]) ⟨hle06.trans (hle7.trans hle8), rfl⟩
    · have e1 : (bytesOf o = bytesOf t') = False := eq_false fun e => hot (bytesOf_inj hbo hb e)
      have e2 : (textOf o = textOf t') = False := eq_false fun e => hot (textOf_inj hbo hb e)
      have e3 : (o = t') = False := eq_false hot
      simp only [e3, decide_false, ne_eq, not_false_iff, decide_true] at smo
      try simp (disch := first | omega | (simp only [PL]; omega)) only [PS, P1, P2, P3, P4, P5, P6, P7, P8, PA, PB, PC, Nat.reduceAdd, Nat.reduceSub, Nat.reduceMul, Nat.reduceLeDiff, Nat.reduceEqDiff, Nat.succ_ne_self, reduceCtorEq, Int.reduceToNat, Int.cast_ofNat_Int, Int.reduceEq, Int.reduceNe, Int.reduceLT, Int.reduceLE, smo, e1, e2]
      exact k_meet _ (by try simp only [Pe, and_true, true_and, and_self]) ⟨hle06.trans (hle7.trans hle8), rfl⟩
  rintro env H ⟨hle, rfl⟩
  try simp (disch := first | omega | (simp only [PL]; omega)) only [PS, P1, P2, P3, P4, P5, P6, P7, P8, PA, PB, PC, Nat.reduceAdd, Nat.reduceSub, Nat.reduceMul, Nat.reduceLeDiff, Nat.reduceEqDiff, Nat.succ_ne_self, reduceCtorEq, Int.reduceToNat, Int.cast_ofNat_Int, Int.reduceEq, Int.reduceNe, Int.reduceLT, Int.reduceLE]
  refine i_cond (fun c1 => ?_) (fun c1 => ?_)
  · try simp (disch := first | omega | (simp only [PL]; omega)) only [PS, P1, P2, P3, P4, P5, P6, P7, P8, PA, PB, PC, Nat.reduceAdd, Nat.reduceSub, Nat.reduceMul, Nat.reduceLeDiff, Nat.reduceEqDiff, Nat.succ_ne_self, reduceCtorEq, Int.reduceToNat, Int.cast_ofNat_Int, Int.reduceEq, Int.reduceNe, Int.reduceLT, Int.reduceLE]
    exact hK H hle
  have hbl : b.length ≤ 100 := by omega
  have hsl : s.length ≤ 100 := by omega
  try simp (disch := first | omega | (simp only [PL]; omega)) only [PS, P1, P2, P3, P4, P5, P6, P7, P8, PA, PB, PC, Nat.reduceAdd, Nat.reduceSub, Nat.reduceMul, Nat.reduceLeDiff, Nat.reduceEqDiff, Nat.succ_ne_self, reduceCtorEq, Int.reduceToNat, Int.cast_ofNat_Int, Int.reduceEq, Int.reduceNe, Int.reduceLT, Int.reduceLE]
  refine i_call H81 ⟨b, rfl, fun h1 hle1 => ?_⟩
  have hle01 := hle.trans hle1
  unfold tgV
  cases htg : tagOf b with
  | none =>
    simp only [aggT, Option.getD, Option.isSome, Bool.false_eq_true, if_false]
    try simp (disch := first | omega | (simp only [PL]; omega)) only [PS, P1, P2, P3, P4, P5, P6, P7, P8, PA, PB, PC, Nat.reduceAdd, Nat.reduceSub, Nat.reduceMul, Nat.reduceLeDiff, Nat.reduceEqDiff, Nat.succ_ne_self, reduceCtorEq, Int.reduceToNat, Int.cast_ofNat_Int, Int.reduceEq, Int.reduceNe, Int.reduceLT, Int.reduceLE, errV_succ]
    refine i_call H165 ⟨s, rfl, by omega, hT.trans hle01, fun v hbv hvt h2 hle2 => ?_, fun hno h2 hle2 => ?_⟩
    · simp only [aggT]
      try simp (disch := first | omega | (simp only [PL]; omega)) only [PS, P1, P2, P3, P4, P5, P6, P7, P8, PA, PB, PC, Nat.reduceAdd, Nat.reduceSub, Nat.reduceMul, Nat.reduceLeDiff, Nat.reduceEqDiff, Nat.succ_ne_self, reduceCtorEq, Int.reduceToNat, Int.cast_ofNat_Int, Int.reduceEq, Int.reduceNe, Int.reduceLT, Int.reduceLE, errV_succ]
      refine i_call H163 ⟨v, rfl, hT.trans (hle01.trans hle2), fun hn => absurd hn hbv, fun _ h3 hle3 => ?_⟩
      rw [hvt]
      try simp (disch := first | omega | (simp only [PL]; omega)) only [PS, P1, P2, P3, P4, P5, P6, P7, P8, PA, PB, PC, Nat.reduceAdd, Nat.reduceSub, Nat.reduceMul, Nat.reduceLeDiff, Nat.reduceEqDiff, Nat.succ_ne_self, reduceCtorEq, Int.reduceToNat, Int.cast_ofNat_Int, Int.reduceEq, Int.reduceNe, Int.reduceLT, Int.reduceLE]
      exact hK h3 (hle01.trans (hle2.trans hle3))
    · simp only [aggT]
      try simp (disch := first | omega | (simp only [PL]; omega)) only [PS, P1, P2, P3, P4, P5, P6, P7, P8, PA, PB, PC, Nat.reduceAdd, Nat.reduceSub, Nat.reduceMul, Nat.reduceLeDiff, Nat.reduceEqDiff, Nat.succ_ne_self, reduceCtorEq, Int.reduceToNat, Int.cast_ofNat_Int, Int.reduceEq, Int.reduceNe, Int.reduceLT, Int.reduceLE, errV_succ]
      exact hK h2 (hle01.trans hle2)
  | some u =>
    obtain ⟨hub, hbu⟩ := bytes_tagOf htg
    simp only [aggT, Option.getD, Option.isSome, if_true]
    try simp (disch := first | omega | (simp only [PL]; omega)) only [PS, P1, P2, P3, P4, P5, P6, P7, P8, PA, PB, PC, Nat.reduceAdd, Nat.reduceSub, Nat.reduceMul, Nat.reduceLeDiff, Nat.reduceEqDiff, Nat.succ_ne_self, reduceCtorEq, Int.reduceToNat, Int.cast_ofNat_Int, Int.reduceEq, Int.reduceNe, Int.reduceLT, Int.reduceLE, errV_zero]
    refine i_call H165 ⟨s, rfl, by omega, hT.trans hle01, fun v hbv hvt h2 hle2 => ?_, fun hno h2 hle2 => ?_⟩
    · simp only [aggT]
      try simp (disch := first | omega | (simp only [PL]; omega)) only [PS, P1, P2, P3, P4, P5, P6, P7, P8, PA, PB, PC, Nat.reduceAdd, Nat.reduceSub, Nat.reduceMul, Nat.reduceLeDiff, Nat.reduceEqDiff, Nat.succ_ne_self, reduceCtorEq, Int.reduceToNat, Int.cast_ofNat_Int, Int.reduceEq, Int.reduceNe, Int.reduceLT, Int.reduceLE, errV_zero]
      refine i_call H162 ⟨u, rfl, fun hn => absurd hn hub, fun _ h3 hle3 => ?_⟩
      rw [hbu]
      try simp (disch := first | omega | (simp only [PL]; omega)) only [PS, P1, P2, P3, P4, P5, P6, P7, P8, PA, PB, PC, Nat.reduceAdd, Nat.reduceSub, Nat.reduceMul, Nat.reduceLeDiff, Nat.reduceEqDiff, Nat.succ_ne_self, reduceCtorEq, Int.reduceToNat, Int.cast_ofNat_Int, Int.reduceEq, Int.reduceNe, Int.reduceLT, Int.reduceLE]
      refine i_call H163 ⟨v, rfl, hT.trans (hle01.trans (hle2.trans hle3)), fun hn => absurd hn hbv, fun _ h4 hle4 => ?_⟩
      rw [hvt]
      try simp (disch := first | omega | (simp only [PL]; omega)) only [PS, P1, P2, P3, P4, P5, P6, P7, P8, PA, PB, PC, Nat.reduceAdd, Nat.reduceSub, Nat.reduceMul, Nat.reduceLeDiff, Nat.reduceEqDiff, Nat.succ_ne_self, reduceCtorEq, Int.reduceToNat, Int.cast_ofNat_Int, Int.reduceEq, Int.reduceNe, Int.reduceLT, Int.reduceLE]
      exact hK h4 (hle01.trans (hle2.trans (hle3.trans hle4)))
    · simp only [aggT]
      try simp (disch := first | omega | (simp only [PL]; omega)) only [PS, P1, P2, P3, P4, P5, P6, P7, P8, PA, PB, PC, Nat.reduceAdd, Nat.reduceSub, Nat.reduceMul, Nat.reduceLeDiff, Nat.reduceEqDiff, Nat.succ_ne_self, reduceCtorEq, Int.reduceToNat, Int.cast_ofNat_Int, Int.reduceEq, Int.reduceNe, Int.reduceLT, Int.reduceLE, errV_zero, errV_succ]
      refine i_call H162 ⟨u, rfl, fun hn => absurd hn hub, fun _ h3 hle3 => ?_⟩
      rw [hbu]
      try simp (disch := first | omega | (simp only [PL]; omega)) only [PS, P1, P2, P3, P4, P5, P6, P7, P8, PA, PB, PC, Nat.reduceAdd, Nat.reduceSub, Nat.reduceMul, Nat.reduceLeDiff, Nat.reduceEqDiff, Nat.succ_ne_self, reduceCtorEq, Int.reduceToNat, Int.cast_ofNat_Int, Int.reduceEq, Int.reduceNe, Int.reduceLT, Int.reduceLE, errV_succ]
      exact hK h3 (hle01.trans (hle2.trans hle3))
end Go.Cw
