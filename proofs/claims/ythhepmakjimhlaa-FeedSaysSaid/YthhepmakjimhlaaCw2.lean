/- Part 2 of the proof of FeedSays: a small language for the program's functions, its soundness, and what the functions do. No conditions beyond the theorems' own. -/
import Derived.Test.YthhepmakjimhlaaCw1
import Derived.Below
import Derived.Carry
import Derived.Deep.Slices
import Derived.OpenShut
import Derived.ProofKit
import Derived.ShutString
import Derived.WalkKit
import GoSem.ClaimJoined
set_option linter.unusedSimpArgs false
set_option linter.unusedVariables false
namespace Go.Cw
open Go

def S19 (N : Num) : Spec := fun args h K => ∃ e f : Nat, args = [errV N e, .int .i64 f] ∧ K (.bool (decide (e = f))) h
theorem F19_ok {N : Num} {Γ : Ctx} [GoodC Γ] : Sat (S19 N) (SF N Γ F19) := by
  rintro _ h K ⟨e, f, rfl, hK⟩
  refine i_fun rfl ?_
  simp only [F19, env0, List.map, List.length, List.replicate, List.cons_append, List.nil_append, Nat.reduceSub, Nat.reduceAdd]
  try simp (disch := first | omega | (simp only [PL]; omega)) only [PS, P1, P2, P3, P4, P5, P6, P7, P8, PA, PB, PC, Nat.reduceAdd, Nat.reduceSub, Nat.reduceMul, Nat.reduceLeDiff, Nat.reduceEqDiff, Nat.succ_ne_self, reduceCtorEq, Int.reduceToNat, Int.cast_ofNat_Int, Int.reduceEq, Int.reduceNe, Int.reduceLT, Int.reduceLE, errV_eq]
  refine i_cond (fun c1 => ?_) (fun c1 => ?_)
  · try simp (disch := first | omega | (simp only [PL]; omega)) only [PS, P1, P2, P3, P4, P5, P6, P7, P8, PA, PB, PC, Nat.reduceAdd, Nat.reduceSub, Nat.reduceMul, Nat.reduceLeDiff, Nat.reduceEqDiff, Nat.succ_ne_self, reduceCtorEq, Int.reduceToNat, Int.cast_ofNat_Int, Int.reduceEq, Int.reduceNe, Int.reduceLT, Int.reduceLE]
    subst c1
    simpa [eq_comm] using hK
  · try simp (disch := first | omega | (simp only [PL]; omega)) only [PS, P1, P2, P3, P4, P5, P6, P7, P8, PA, PB, PC, Nat.reduceAdd, Nat.reduceSub, Nat.reduceMul, Nat.reduceLeDiff, Nat.reduceEqDiff, Nat.succ_ne_self, reduceCtorEq, Int.reduceToNat, Int.cast_ofNat_Int, Int.reduceEq, Int.reduceNe, Int.reduceLT, Int.reduceLE, errV_pos N c1]
    have : ((f : Int) > 0 ∧ (e : Int) = f) ↔ e = f := by omega
    try simp (disch := first | omega | (simp only [PL]; omega)) only [PS, P1, P2, P3, P4, P5, P6, P7, P8, PA, PB, PC, Nat.reduceAdd, Nat.reduceSub, Nat.reduceMul, Nat.reduceLeDiff, Nat.reduceEqDiff, Nat.succ_ne_self, reduceCtorEq, Int.reduceToNat, Int.cast_ofNat_Int, Int.reduceEq, Int.reduceNe, Int.reduceLT, Int.reduceLE]
    rw [← decide_eq_decide.2 this] at hK
    exact hK

def S20 (N : Num) : Spec := fun args h K => ∃ v f, args = [v] ∧ FrV h v f ∧ K (errV N f.fault) h
theorem F20_ok {N : Num} {Γ : Ctx} [GoodC Γ] : Sat (S20 N) (SF N Γ F20) := by
  rintro _ h K ⟨_, f, rfl, ⟨s, rfl, hs⟩, hK⟩
  have R := hs.rules 4 (fun _ => rfl) default
  unfold Fr.fault at hK
  refine i_fun rfl ?_
  simp only [F20, env0, List.map, List.length, List.replicate, List.cons_append, List.nil_append, Nat.reduceSub, Nat.reduceAdd]
  try simp (disch := first | omega | (simp only [PL]; omega)) only [PS, P1, P2, P3, P4, P5, P6, P7, P8, PA, PB, PC, Nat.reduceAdd, Nat.reduceSub, Nat.reduceMul, Nat.reduceLeDiff, Nat.reduceEqDiff, Nat.succ_ne_self, reduceCtorEq, Int.reduceToNat, Int.cast_ofNat_Int, Int.reduceEq, Int.reduceNe, Int.reduceLT, Int.reduceLE, R]
  refine i_cond (fun c1 => ?_) (fun c1 => ?_)
  · try simp (disch := first | omega | (simp only [PL]; omega)) only [PS, P1, P2, P3, P4, P5, P6, P7, P8, PA, PB, PC, Nat.reduceAdd, Nat.reduceSub, Nat.reduceMul, Nat.reduceLeDiff, Nat.reduceEqDiff, Nat.succ_ne_self, reduceCtorEq, Int.reduceToNat, Int.cast_ofNat_Int, Int.reduceEq, Int.reduceNe, Int.reduceLT, Int.reduceLE]; rw [if_pos (by omega)] at hK; exact hK
  try simp (disch := first | omega | (simp only [PL]; omega)) only [PS, P1, P2, P3, P4, P5, P6, P7, P8, PA, PB, PC, Nat.reduceAdd, Nat.reduceSub, Nat.reduceMul, Nat.reduceLeDiff, Nat.reduceEqDiff, Nat.succ_ne_self, reduceCtorEq, Int.reduceToNat, Int.cast_ofNat_Int, Int.reduceEq, Int.reduceNe, Int.reduceLT, Int.reduceLE, R]
  refine i_cond (fun c2 => ?_) (fun c2 => ?_)
  · try simp (disch := first | omega | (simp only [PL]; omega)) only [PS, P1, P2, P3, P4, P5, P6, P7, P8, PA, PB, PC, Nat.reduceAdd, Nat.reduceSub, Nat.reduceMul, Nat.reduceLeDiff, Nat.reduceEqDiff, Nat.succ_ne_self, reduceCtorEq, Int.reduceToNat, Int.cast_ofNat_Int, Int.reduceEq, Int.reduceNe, Int.reduceLT, Int.reduceLE]; rw [if_neg (by omega), if_pos (by omega)] at hK; exact hK
  try simp (disch := first | omega | (simp only [PL]; omega)) only [PS, P1, P2, P3, P4, P5, P6, P7, P8, PA, PB, PC, Nat.reduceAdd, Nat.reduceSub, Nat.reduceMul, Nat.reduceLeDiff, Nat.reduceEqDiff, Nat.succ_ne_self, reduceCtorEq, Int.reduceToNat, Int.cast_ofNat_Int, Int.reduceEq, Int.reduceNe, Int.reduceLT, Int.reduceLE]
  refine i_cond (fun c3 => ?_) (fun c3 => ?_)
  · try simp (disch := first | omega | (simp only [PL]; omega)) only [PS, P1, P2, P3, P4, P5, P6, P7, P8, PA, PB, PC, Nat.reduceAdd, Nat.reduceSub, Nat.reduceMul, Nat.reduceLeDiff, Nat.reduceEqDiff, Nat.succ_ne_self, reduceCtorEq, Int.reduceToNat, Int.cast_ofNat_Int, Int.reduceEq, Int.reduceNe, Int.reduceLT, Int.reduceLE]; rw [if_neg (by omega), if_neg (by omega), if_pos (by omega)] at hK; exact hK
  try simp (disch := first | omega | (simp only [PL]; omega)) only [PS, P1, P2, P3, P4, P5, P6, P7, P8, PA, PB, PC, Nat.reduceAdd, Nat.reduceSub, Nat.reduceMul, Nat.reduceLeDiff, Nat.reduceEqDiff, Nat.succ_ne_self, reduceCtorEq, Int.reduceToNat, Int.cast_ofNat_Int, Int.reduceEq, Int.reduceNe, Int.reduceLT, Int.reduceLE, R]
  refine i_cond (fun c4 => ?_) (fun c4 => ?_)
  · try simp (disch := first | omega | (simp only [PL]; omega)) only [PS, P1, P2, P3, P4, P5, P6, P7, P8, PA, PB, PC, Nat.reduceAdd, Nat.reduceSub, Nat.reduceMul, Nat.reduceLeDiff, Nat.reduceEqDiff, Nat.succ_ne_self, reduceCtorEq, Int.reduceToNat, Int.cast_ofNat_Int, Int.reduceEq, Int.reduceNe, Int.reduceLT, Int.reduceLE]; rw [if_neg (by omega), if_neg (by omega), if_neg (by omega), if_pos (by omega)] at hK; exact hK
  rw [if_neg (by omega), if_neg (by omega), if_neg (by omega), if_neg (by omega)] at hK
  try simp (disch := first | omega | (simp only [PL]; omega)) only [PS, P1, P2, P3, P4, P5, P6, P7, P8, PA, PB, PC, Nat.reduceAdd, Nat.reduceSub, Nat.reduceMul, Nat.reduceLeDiff, Nat.reduceEqDiff, Nat.succ_ne_self, reduceCtorEq, Int.reduceToNat, Int.cast_ofNat_Int, Int.reduceEq, Int.reduceNe, Int.reduceLT, Int.reduceLE, R]
  refine i_loop (fun i : Nat => [none, none, none, none, none, none, none, none, some s, some (.int .i64 f.reads.length), some (.int .i64 i), none, none, none])
    (fun i h' => i ≤ f.reads.length ∧ h' = h ∧ ∀ j, j < i → ¬ (f.reads.getD j default).bad) (fun i => f.reads.length - i) 0 ?_ ⟨by omega, rfl, by intro j hj; omega⟩ ?_
  · try simp only [Pe, and_true, true_and, and_self]; rfl
  · rintro i h' ⟨hi, rfl, hg⟩
    try simp (disch := first | omega | (simp only [PL]; omega)) only [PS, P1, P2, P3, P4, P5, P6, P7, P8, PA, PB, PC, Nat.reduceAdd, Nat.reduceSub, Nat.reduceMul, Nat.reduceLeDiff, Nat.reduceEqDiff, Nat.succ_ne_self, reduceCtorEq, Int.reduceToNat, Int.cast_ofNat_Int, Int.reduceEq, Int.reduceNe, Int.reduceLT, Int.reduceLE, R]
    refine i_cond (fun c5 => ?_) (fun c5 => ?_)
    · try simp (disch := first | omega | (simp only [PL]; omega)) only [PS, P1, P2, P3, P4, P5, P6, P7, P8, PA, PB, PC, Nat.reduceAdd, Nat.reduceSub, Nat.reduceMul, Nat.reduceLeDiff, Nat.reduceEqDiff, Nat.succ_ne_self, reduceCtorEq, Int.reduceToNat, Int.cast_ofNat_Int, Int.reduceEq, Int.reduceNe, Int.reduceLT, Int.reduceLE, R, Rd.enc]
      refine i_cond (fun c6 => ?_) (fun c6 => ?_)
      · try simp (disch := first | omega | (simp only [PL]; omega)) only [PS, P1, P2, P3, P4, P5, P6, P7, P8, PA, PB, PC, Nat.reduceAdd, Nat.reduceSub, Nat.reduceMul, Nat.reduceLeDiff, Nat.reduceEqDiff, Nat.succ_ne_self, reduceCtorEq, Int.reduceToNat, Int.cast_ofNat_Int, Int.reduceEq, Int.reduceNe, Int.reduceLT, Int.reduceLE]
        rw [if_pos ⟨_, getD_mem default (i := i) (by omega), by simp only [Rd.bad]; omega⟩] at hK
        exact hK
      · try simp (disch := first | omega | (simp only [PL]; omega)) only [PS, P1, P2, P3, P4, P5, P6, P7, P8, PA, PB, PC, Nat.reduceAdd, Nat.reduceSub, Nat.reduceMul, Nat.reduceLeDiff, Nat.reduceEqDiff, Nat.succ_ne_self, reduceCtorEq, Int.reduceToNat, Int.cast_ofNat_Int, Int.reduceEq, Int.reduceNe, Int.reduceLT, Int.reduceLE]
        refine k_loop (i + 1) (by omega) (by try simp only [Pe, and_true, true_and, and_self]) ⟨by omega, rfl, ?_⟩
        intro j hj
        by_cases e : j = i
        · subst e; simp only [Rd.bad]; omega
        · exact hg j (by omega)
    · try simp (disch := first | omega | (simp only [PL]; omega)) only [PS, P1, P2, P3, P4, P5, P6, P7, P8, PA, PB, PC, Nat.reduceAdd, Nat.reduceSub, Nat.reduceMul, Nat.reduceLeDiff, Nat.reduceEqDiff, Nat.succ_ne_self, reduceCtorEq, Int.reduceToNat, Int.cast_ofNat_Int, Int.reduceEq, Int.reduceNe, Int.reduceLT, Int.reduceLE]
      rw [if_neg] at hK
      · exact hK
      · rintro ⟨r, hr, hb⟩
        obtain ⟨j, hj, rfl⟩ := List.getElem_of_mem hr
        refine hg j (by omega) ?_
        simpa [List.getD_eq_getElem?_getD, hj] using hb
end Go.Cw
namespace Go.Cw
open Go

def Rd.bytes (r : Rd) : List UInt8 := [b8 r.ant, b8 r.str, b8 r.age] ++ r.tag
def Fr.body (f : Fr) : List UInt8 := if f.ty = 3 then [b8 f.warm] else f.reads.flatMap Rd.bytes
def Fr.front (f : Fr) : List UInt8 := [165, b8 f.body.length, b8 f.ty] ++ f.body
def bsumN (l : List UInt8) : Nat := (l.map (·.toNat)).sum
def Fr.bytes (f : Fr) : List UInt8 := f.front ++ [b8 (255 - (bsumN f.front : Int) % 256)]

theorem bytes_len : ∀ (l : List Rd), (∀ r ∈ l, r.tag.length = 8) → (l.flatMap Rd.bytes).length = l.length * 11 := by
  intro l
  induction l with
  | nil => intro _; rfl
  | cons r l ih =>
    intro h
    have h1 := h r (by simp)
    rw [List.flatMap_cons, List.length_append, ih fun r hr => h r (by simp [hr])]
    simp only [Rd.bytes, List.length_append, List.length_cons, List.length_nil, h1]
    omega

theorem bsumN_take {l : List UInt8} {i : Nat} (hi : i < l.length) : bsumN (l.take (i + 1)) = bsumN (l.take i) + (l.getD i 0).toNat := by
  unfold bsumN
  rw [take_succ_d 0 hi, List.map_append, List.sum_append]; simp only [List.map_cons, List.map_nil, List.sum_cons, List.sum_nil, Nat.add_zero]
theorem bsumN_le : ∀ (l : List UInt8), bsumN l ≤ l.length * 255 := by
  intro l
  induction l with
  | nil => simp [bsumN]
  | cons x l ih =>
    have : x.toNat < 256 := x.toNat_lt
    simp only [bsumN, List.map_cons, List.sum_cons, List.length_cons] at ih ⊢
    omega
theorem bsum_eq (l : List UInt8) : bsum l = bsumN l % 256 := by
  have : ∀ (l : List UInt8) (a : Nat), l.foldl (fun a b => (a + b.toNat) % 256) (a % 256) = (a + bsumN l) % 256 := by
    intro l
    induction l with
    | nil => intro a; simp [bsumN]
    | cons x l ih =>
      intro a
      simp only [List.foldl_cons]
      have := ih (a % 256 + x.toNat)
      rw [this]
      simp only [bsumN, List.map_cons, List.sum_cons]
      omega
  have := this l 0
  simpa [bsum] using this

theorem Fr.fine {f : Fr} (hf : f.fault = 0) : 1 ≤ f.ty ∧ f.ty ≤ 3 ∧ f.reads.length ≤ 4 ∧ (∀ r ∈ f.reads, ¬ r.bad) ∧ 0 ≤ f.warm ∧ f.warm ≤ 255 ∧ (f.ty ≠ 1 → f.reads = []) ∧ (f.ty ≠ 3 → f.warm = 0) := by
  unfold Fr.fault at hf
  repeat' split at hf
  all_goals first | (simp at hf; done) | skip
  rename_i h1 h2 h3 h4 h5
  refine ⟨by omega, by omega, by omega, fun r hr hb => h5 ⟨r, hr, hb⟩, by omega, by omega, fun h => ?_, by omega⟩
  exact List.eq_nil_of_length_eq_zero (by omega)
theorem Fr.body_len {f : Fr} (hf : f.fault = 0) : f.body.length ≤ 44 := by
  obtain ⟨h1, h2, h3, h4, h5, h6, h7⟩ := Fr.fine hf
  unfold Fr.body
  split
  · simp
  · rw [bytes_len _ fun r hr => by have := h4 r hr; simp only [Rd.bad] at this; omega]; omega

/-- of one that is right -/
def S22 : Spec := fun args h K => ∃ v f, args = [v] ∧ FrV h v f ∧ f.fault = 0 ∧ ∀ h', Heap.le h h' → K (.string (str f.bytes)) h'

theorem F22_ok {N : Num} {Γ : Ctx} [GoodC Γ] : Sat S22 (SF N Γ F22) := by
  rintro _ h K ⟨_, f, rfl, ⟨s, rfl, hs⟩, hf, hK⟩
  obtain ⟨h1, h2, h3, h4, h5, h6, h7, h8⟩ := Fr.fine hf
  have hbl := Fr.body_len hf
  have htag : ∀ r ∈ f.reads, r.tag.length = 8 := fun r hr => by have := h4 r hr; simp only [Rd.bad] at this; omega
  refine i_fun rfl ?_
  simp only [F22, env0, List.map, List.length, List.replicate, List.cons_append, List.nil_append, Nat.reduceSub, Nat.reduceAdd]
  try simp (disch := first | omega | (simp only [PL]; omega)) only [PS, P1, P2, P3, P4, P5, P6, P7, P8, PA, PB, PC, Nat.reduceAdd, Nat.reduceSub, Nat.reduceMul, Nat.reduceLeDiff, Nat.reduceEqDiff, Nat.succ_ne_self, reduceCtorEq, Int.reduceToNat, Int.cast_ofNat_Int, Int.reduceEq, Int.reduceNe, Int.reduceLT, Int.reduceLE]
  refine i_loop (fun i : Nat => [none, some (.agg #[.int .i64 f.ty, s, .int .i64 f.warm]), none, some (.string (str ((f.reads.take i).flatMap Rd.bytes))), some (.int .i64 i), none, none, none, none, none, none, none, none, none, none, none, none, none, none])
    (fun i h' => i ≤ f.reads.length ∧ Heap.le h h') (fun i => f.reads.length - i) 0 ?_ ⟨by omega, Heap.le.refl _⟩ ?_
  · try simp only [Pe, and_true, true_and, and_self]; exact ⟨rfl, rfl⟩
  rintro i h' ⟨hi, hle⟩
  have R := (hs.le hle).rules 4 (fun _ => rfl) default
  try simp (disch := first | omega | (simp only [PL]; omega)) only [PS, P1, P2, P3, P4, P5, P6, P7, P8, PA, PB, PC, Nat.reduceAdd, Nat.reduceSub, Nat.reduceMul, Nat.reduceLeDiff, Nat.reduceEqDiff, Nat.succ_ne_self, reduceCtorEq, Int.reduceToNat, Int.cast_ofNat_Int, Int.reduceEq, Int.reduceNe, Int.reduceLT, Int.reduceLE, R]
  refine i_cond (fun c5 => ?_) (fun c5 => ?_)
  · try simp (disch := first | omega | (simp only [PL]; omega)) only [PS, P1, P2, P3, P4, P5, P6, P7, P8, PA, PB, PC, Nat.reduceAdd, Nat.reduceSub, Nat.reduceMul, Nat.reduceLeDiff, Nat.reduceEqDiff, Nat.succ_ne_self, reduceCtorEq, Int.reduceToNat, Int.cast_ofNat_Int, Int.reduceEq, Int.reduceNe, Int.reduceLT, Int.reduceLE, R, Rd.enc]
    refine i_bslS encB 1 encB_len [b8 (f.reads.getD i default).ant, b8 (f.reads.getD i default).str, b8 (f.reads.getD i default).age] (by simp [encB, conv8]) rfl (by simp [maxLen]) fun v' h'' hle' ho => ?_
    have ht := htag _ (getD_mem default (l := f.reads) (i := i) (by omega))
    have hlen := bytes_len (f.reads.take i) fun r hr => htag r (List.mem_of_mem_take hr)
    have hlt := List.length_take_le i f.reads
    try simp (disch := first | omega | (simp only [PL]; omega)) only [PS, P1, P2, P3, P4, P5, P6, P7, P8, PA, PB, PC, Nat.reduceAdd, Nat.reduceSub, Nat.reduceMul, Nat.reduceLeDiff, Nat.reduceEqDiff, Nat.succ_ne_self, reduceCtorEq, Int.reduceToNat, Int.cast_ofNat_Int, Int.reduceEq, Int.reduceNe, Int.reduceLT, Int.reduceLE, (ho.sl encB_len).b2s, hlen]
    refine k_loop (i + 1) (by omega) ?_ ⟨by omega, hle.trans hle'⟩
    try simp only [Pe, and_true, true_and, and_self]
    rw [take_succ_d default (show i < f.reads.length by omega), List.flatMap_append]
    simp [Rd.bytes]
  · try simp (disch := first | omega | (simp only [PL]; omega)) only [PS, P1, P2, P3, P4, P5, P6, P7, P8, PA, PB, PC, Nat.reduceAdd, Nat.reduceSub, Nat.reduceMul, Nat.reduceLeDiff, Nat.reduceEqDiff, Nat.succ_ne_self, reduceCtorEq, Int.reduceToNat, Int.cast_ofNat_Int, Int.reduceEq, Int.reduceNe, Int.reduceLT, Int.reduceLE]
    have hi' : i = f.reads.length := by omega
    subst hi'
    rw [List.take_length]
    refine i_meet_cond (fun env h' => Heap.le h h' ∧ env = [none, some (.agg #[.int .i64 f.ty, s, .int .i64 f.warm]), none, some (.string (str f.body)), none, none, none, none, none, none, none, none, none, none, none, none, none, none, none]) ?_ ?_
    · rintro env h' ⟨hle, rfl⟩
      try simp (disch := first | omega | (simp only [PL]; omega)) only [PS, P1, P2, P3, P4, P5, P6, P7, P8, PA, PB, PC, Nat.reduceAdd, Nat.reduceSub, Nat.reduceMul, Nat.reduceLeDiff, Nat.reduceEqDiff, Nat.succ_ne_self, reduceCtorEq, Int.reduceToNat, Int.cast_ofNat_Int, Int.reduceEq, Int.reduceNe, Int.reduceLT, Int.reduceLE]
      refine i_bslS encB 1 encB_len [165, b8 f.body.length, b8 f.ty] (by simp [encB, conv8]) rfl (by simp [maxLen]) fun v' h'' hle' ho => ?_
      try simp (disch := first | omega | (simp only [PL]; omega)) only [PS, P1, P2, P3, P4, P5, P6, P7, P8, PA, PB, PC, Nat.reduceAdd, Nat.reduceSub, Nat.reduceMul, Nat.reduceLeDiff, Nat.reduceEqDiff, Nat.succ_ne_self, reduceCtorEq, Int.reduceToNat, Int.cast_ofNat_Int, Int.reduceEq, Int.reduceNe, Int.reduceLT, Int.reduceLE, (ho.sl encB_len).b2s]
      have hfl : f.front.length ≤ 47 := by simp only [Fr.front, List.length_append, List.length_cons, List.length_nil]; omega
      show SW N Γ _ _ [_, _, _, _, _, _, some (.string (str f.front)), _, _, _, _, _, _, _, _, _, _, _, _] _
      refine i_loop (fun i : Nat => [none, none, none, none, none, none, some (.string (str f.front)), some (.int .i64 (bsumN (f.front.take i))), some (.int .i64 i), none, none, none, none, none, none, none, none, none, none])
        (fun i h' => i ≤ f.front.length ∧ h' = h'') (fun i => f.front.length - i) 0 ?_ ⟨by omega, rfl⟩ ?_
      · try simp only [Pe, and_true, true_and, and_self]; exact ⟨rfl, rfl⟩
      rintro i _ ⟨hi, rfl⟩
      try simp (disch := first | omega | (simp only [PL]; omega)) only [PS, P1, P2, P3, P4, P5, P6, P7, P8, PA, PB, PC, Nat.reduceAdd, Nat.reduceSub, Nat.reduceMul, Nat.reduceLeDiff, Nat.reduceEqDiff, Nat.succ_ne_self, reduceCtorEq, Int.reduceToNat, Int.cast_ofNat_Int, Int.reduceEq, Int.reduceNe, Int.reduceLT, Int.reduceLE]
      refine i_cond (fun c5 => ?_) (fun c5 => ?_)
      · have hb : (f.front.getD i 0).toNat < 256 := (f.front.getD i 0).toNat_lt
        have hs1 := bsumN_le (f.front.take i)
        have hs2 := List.length_take_le i f.front
        try simp (disch := first | omega | (simp only [PL]; omega)) only [PS, P1, P2, P3, P4, P5, P6, P7, P8, PA, PB, PC, Nat.reduceAdd, Nat.reduceSub, Nat.reduceMul, Nat.reduceLeDiff, Nat.reduceEqDiff, Nat.succ_ne_self, reduceCtorEq, Int.reduceToNat, Int.cast_ofNat_Int, Int.reduceEq, Int.reduceNe, Int.reduceLT, Int.reduceLE]
        refine k_loop (i + 1) (by omega) ?_ ⟨by omega, rfl⟩
        try simp only [Pe, and_true, true_and, and_self]
        rw [bsumN_take (by omega)]
      · have hi' : i = f.front.length := by omega
        subst hi'
        rw [List.take_length]
        have hs1 := bsumN_le f.front
        have e1 : IntKind.i64.wrap (255 - Int.tmod (bsumN f.front) 256) = 255 - (bsumN f.front : Int) % 256 := by
          rw [Int.tmod_eq_emod_of_nonneg (by omega), w64 (by omega) (by omega)]
        try simp (disch := first | omega | (simp only [PL]; omega)) only [PS, P1, P2, P3, P4, P5, P6, P7, P8, PA, PB, PC, Nat.reduceAdd, Nat.reduceSub, Nat.reduceMul, Nat.reduceLeDiff, Nat.reduceEqDiff, Nat.succ_ne_self, reduceCtorEq, Int.reduceToNat, Int.cast_ofNat_Int, Int.reduceEq, Int.reduceNe, Int.reduceLT, Int.reduceLE, e1]
        refine i_bslS encB 1 encB_len [b8 (255 - (bsumN f.front : Int) % 256)] (by simp [encB, conv8]) rfl (by simp [maxLen]) fun v' h3 hle3 ho => ?_
        try simp (disch := first | omega | (simp only [PL]; omega)) only [PS, P1, P2, P3, P4, P5, P6, P7, P8, PA, PB, PC, Nat.reduceAdd, Nat.reduceSub, Nat.reduceMul, Nat.reduceLeDiff, Nat.reduceEqDiff, Nat.succ_ne_self, reduceCtorEq, Int.reduceToNat, Int.cast_ofNat_Int, Int.reduceEq, Int.reduceNe, Int.reduceLT, Int.reduceLE, (ho.sl encB_len).b2s]
        exact hK _ (hle.trans (hle'.trans hle3))
    · refine i_cond (fun c6 => ?_) (fun c6 => ?_)
      · try simp (disch := first | omega | (simp only [PL]; omega)) only [PS, P1, P2, P3, P4, P5, P6, P7, P8, PA, PB, PC, Nat.reduceAdd, Nat.reduceSub, Nat.reduceMul, Nat.reduceLeDiff, Nat.reduceEqDiff, Nat.succ_ne_self, reduceCtorEq, Int.reduceToNat, Int.cast_ofNat_Int, Int.reduceEq, Int.reduceNe, Int.reduceLT, Int.reduceLE]
        refine i_bslS encB 1 encB_len [b8 f.warm] (by simp [encB, conv8]) rfl (by simp [maxLen]) fun v' h'' hle' ho => ?_
        try simp (disch := first | omega | (simp only [PL]; omega)) only [PS, P1, P2, P3, P4, P5, P6, P7, P8, PA, PB, PC, Nat.reduceAdd, Nat.reduceSub, Nat.reduceMul, Nat.reduceLeDiff, Nat.reduceEqDiff, Nat.succ_ne_self, reduceCtorEq, Int.reduceToNat, Int.cast_ofNat_Int, Int.reduceEq, Int.reduceNe, Int.reduceLT, Int.reduceLE, (ho.sl encB_len).b2s]
        refine k_meet _ ?_ ⟨hle.trans hle', rfl⟩
        try simp only [Pe, and_true, true_and, and_self]; simp [Fr.body, c6]
      · try simp (disch := first | omega | (simp only [PL]; omega)) only [PS, P1, P2, P3, P4, P5, P6, P7, P8, PA, PB, PC, Nat.reduceAdd, Nat.reduceSub, Nat.reduceMul, Nat.reduceLeDiff, Nat.reduceEqDiff, Nat.succ_ne_self, reduceCtorEq, Int.reduceToNat, Int.cast_ofNat_Int, Int.reduceEq, Int.reduceNe, Int.reduceLT, Int.reduceLE]
        refine k_meet _ ?_ ⟨hle, rfl⟩
        try simp only [Pe, and_true, true_and, and_self]; simp [Fr.body, c6]
end Go.Cw
namespace Go.Cw
open Go

theorem FrV.le {h h' : Heap} (hl : Heap.le h h') {v : Value} {f : Fr} (hv : FrV h v f) : FrV h' v f := by
  obtain ⟨s, h1, h2⟩ := hv
  exact ⟨s, h1, h2.le hl⟩

def S18 (N : Num) : Spec := fun args h K => ∃ v f, args = [v] ∧ FrV h v f ∧ ∀ h', Heap.le h h' → K (.tuple #[.string (str (if f.fault = 0 then f.bytes else [])), errV N f.fault]) h'

theorem F18_ok {N : Num} {Γ : Ctx} [GoodC Γ] (H20 : Sat (S20 N) (Γ 20)) (H56 : Sat S56 (Γ 56)) : Sat (S18 N) (SF N Γ F18) := by
  rintro _ h K ⟨_, f, rfl, hv0, hK⟩
  obtain ⟨s, rfl, hs⟩ := hv0
  refine i_fun rfl ?_
  simp only [F18, env0, List.map, List.length, List.replicate, List.cons_append, List.nil_append, Nat.reduceSub, Nat.reduceAdd]
  try simp (disch := first | omega | (simp only [PL]; omega)) only [PS, P1, P2, P3, P4, P5, P6, P7, P8, PA, PB, PC, Nat.reduceAdd, Nat.reduceSub, Nat.reduceMul, Nat.reduceLeDiff, Nat.reduceEqDiff, Nat.succ_ne_self, reduceCtorEq, Int.reduceToNat, Int.cast_ofNat_Int, Int.reduceEq, Int.reduceNe, Int.reduceLT, Int.reduceLE]
  refine i_call H20 ⟨_, f, rfl, ⟨s, rfl, hs⟩, ?_⟩
  try simp (disch := first | omega | (simp only [PL]; omega)) only [PS, P1, P2, P3, P4, P5, P6, P7, P8, PA, PB, PC, Nat.reduceAdd, Nat.reduceSub, Nat.reduceMul, Nat.reduceLeDiff, Nat.reduceEqDiff, Nat.succ_ne_self, reduceCtorEq, Int.reduceToNat, Int.cast_ofNat_Int, Int.reduceEq, Int.reduceNe, Int.reduceLT, Int.reduceLE, errV_eq]
  refine i_cond (fun c1 => ?_) (fun c1 => ?_)
  · try simp (disch := first | omega | (simp only [PL]; omega)) only [PS, P1, P2, P3, P4, P5, P6, P7, P8, PA, PB, PC, Nat.reduceAdd, Nat.reduceSub, Nat.reduceMul, Nat.reduceLeDiff, Nat.reduceEqDiff, Nat.succ_ne_self, reduceCtorEq, Int.reduceToNat, Int.cast_ofNat_Int, Int.reduceEq, Int.reduceNe, Int.reduceLT, Int.reduceLE]
    rw [if_neg c1] at hK
    exact hK _ (Heap.le.refl _)
  have hf : f.fault = 0 := by omega
  rw [hf] at hK ⊢
  simp only [if_true, errV_zero] at hK ⊢
  obtain ⟨h1, h2, h3, h4, h5, h6, h7, h8⟩ := Fr.fine hf
  have hbl := Fr.body_len hf
  have htag : ∀ r ∈ f.reads, r.tag.length = 8 := fun r hr => by have := h4 r hr; simp only [Rd.bad] at this; omega
  try simp (disch := first | omega | (simp only [PL]; omega)) only [PS, P1, P2, P3, P4, P5, P6, P7, P8, PA, PB, PC, Nat.reduceAdd, Nat.reduceSub, Nat.reduceMul, Nat.reduceLeDiff, Nat.reduceEqDiff, Nat.succ_ne_self, reduceCtorEq, Int.reduceToNat, Int.cast_ofNat_Int, Int.reduceEq, Int.reduceNe, Int.reduceLT, Int.reduceLE]
  refine i_meet_cond_blk (fun env h' => ∃ v, OwnS encB 1 h h' v f.body ∧ env = [none, some (.agg #[.int .i64 f.ty, s, .int .i64 f.warm]), none, none, none, some v, none, none, none, none, none, none, none, none, none, none, none, none, none, none, none, none, none, none, none, none, none, none, none]) ?_ ?_
  · rintro env h' ⟨v, ho, rfl⟩
    have R := (ho.sl encB_len).rules 1 (fun _ => rfl) default
    try simp (disch := first | omega | (simp only [PL]; omega)) only [PS, P1, P2, P3, P4, P5, P6, P7, P8, PA, PB, PC, Nat.reduceAdd, Nat.reduceSub, Nat.reduceMul, Nat.reduceLeDiff, Nat.reduceEqDiff, Nat.succ_ne_self, reduceCtorEq, Int.reduceToNat, Int.cast_ofNat_Int, Int.reduceEq, Int.reduceNe, Int.reduceLT, Int.reduceLE, R]
    refine i_bslS encB 1 encB_len [165, b8 f.body.length, b8 f.ty] (by simp [encB, conv8]) rfl (by simp [maxLen]) fun v1 h1 hle1 ho1 => ?_
    try simp (disch := first | omega | (simp only [PL]; omega)) only [PS, P1, P2, P3, P4, P5, P6, P7, P8, PA, PB, PC, Nat.reduceAdd, Nat.reduceSub, Nat.reduceMul, Nat.reduceLeDiff, Nat.reduceEqDiff, Nat.succ_ne_self, reduceCtorEq, Int.reduceToNat, Int.cast_ofNat_Int, Int.reduceEq, Int.reduceNe, Int.reduceLT, Int.reduceLE, (ho1.sl encB_len).b2s, ((ho.le hle1).sl encB_len).b2s]
    show efW N Γ _ [.string (str f.front)] _ _
    have hfl : f.front.length ≤ 47 := by simp only [Fr.front, List.length_append, List.length_cons, List.length_nil]; omega
    refine i_call H56 ⟨f.front, rfl, by omega, ?_⟩
    try simp (disch := first | omega | (simp only [PL]; omega)) only [PS, P1, P2, P3, P4, P5, P6, P7, P8, PA, PB, PC, Nat.reduceAdd, Nat.reduceSub, Nat.reduceMul, Nat.reduceLeDiff, Nat.reduceEqDiff, Nat.succ_ne_self, reduceCtorEq, Int.reduceToNat, Int.cast_ofNat_Int, Int.reduceEq, Int.reduceNe, Int.reduceLT, Int.reduceLE]
    refine i_bslS encB 1 encB_len [b8 (255 - (bsumN f.front : Int) % 256)] (by simp [encB, b8_val, bsum_eq]; omega) rfl (by simp [maxLen]) fun v2 h2 hle2 ho2 => ?_
    show stgsW N Γ _ [_, _, _, _, _, _, _, _, _, _, _, _, _, _, _, _, _, _, _, _, _, _, _, _, _, _, some (.string (str f.front)), _, _] _ _
    try simp (disch := first | omega | (simp only [PL]; omega)) only [PS, P1, P2, P3, P4, P5, P6, P7, P8, PA, PB, PC, Nat.reduceAdd, Nat.reduceSub, Nat.reduceMul, Nat.reduceLeDiff, Nat.reduceEqDiff, Nat.succ_ne_self, reduceCtorEq, Int.reduceToNat, Int.cast_ofNat_Int, Int.reduceEq, Int.reduceNe, Int.reduceLT, Int.reduceLE, (ho2.sl encB_len).b2s]
    exact hK _ (ho.1.trans (hle1.trans hle2))
  · refine i_cond (fun c2 => ?_) (fun c2 => ?_)
    · have R := hs.rules 4 (fun _ => rfl) default
      try simp (disch := first | omega | (simp only [PL]; omega)) only [PS, P1, P2, P3, P4, P5, P6, P7, P8, PA, PB, PC, Nat.reduceAdd, Nat.reduceSub, Nat.reduceMul, Nat.reduceLeDiff, Nat.reduceEqDiff, Nat.succ_ne_self, reduceCtorEq, Int.reduceToNat, Int.cast_ofNat_Int, Int.reduceEq, Int.reduceNe, Int.reduceLT, Int.reduceLE, R]
      refine i_loop (fun (s' : Nat × Value) => [none, some (.agg #[.int .i64 f.ty, s, .int .i64 f.warm]), none, none, none, some s'.2, none, none, none, none, none, none, some s, some (.int .i64 f.reads.length), some (.int .i64 s'.1), none, none, none, none, none, none, none, none, none, none, none, none, none, none])
        (fun s' h' => s'.1 ≤ f.reads.length ∧ OwnS encB 1 h h' s'.2 ((f.reads.take s'.1).flatMap Rd.bytes)) (fun s' => f.reads.length - s'.1) (0, .slice none 0 0) (by try simp only [Pe, and_true, true_and, and_self]; rfl) ⟨by simp, OwnS.nil (Heap.le.refl _)⟩ ?_
      rintro ⟨i, v⟩ h' ⟨hi, ho⟩
      have R := (hs.le ho.1).rules 4 (fun _ => rfl) default
      dsimp only at hi ho
      try simp (disch := first | omega | (simp only [PL]; omega)) only [PS, P1, P2, P3, P4, P5, P6, P7, P8, PA, PB, PC, Nat.reduceAdd, Nat.reduceSub, Nat.reduceMul, Nat.reduceLeDiff, Nat.reduceEqDiff, Nat.succ_ne_self, reduceCtorEq, Int.reduceToNat, Int.cast_ofNat_Int, Int.reduceEq, Int.reduceNe, Int.reduceLT, Int.reduceLE, R]
      refine i_cond (fun c5 => ?_) (fun c5 => ?_)
      · try simp (disch := first | omega | (simp only [PL]; omega)) only [PS, P1, P2, P3, P4, P5, P6, P7, P8, PA, PB, PC, Nat.reduceAdd, Nat.reduceSub, Nat.reduceMul, Nat.reduceLeDiff, Nat.reduceEqDiff, Nat.succ_ne_self, reduceCtorEq, Int.reduceToNat, Int.cast_ofNat_Int, Int.reduceEq, Int.reduceNe, Int.reduceLT, Int.reduceLE, R, Rd.enc]
        have hlt : i < f.reads.length := by omega
        have ht := htag _ (getD_mem default hlt)
        have hlen := bytes_len (f.reads.take i) fun r hr => htag r (List.mem_of_mem_take hr)
        have hlt2 := List.length_take_le i f.reads
        refine i_bslS encB 1 encB_len [b8 (f.reads.getD i default).ant, b8 (f.reads.getD i default).str, b8 (f.reads.getD i default).age] (by simp [encB, conv8]) rfl (by simp [maxLen]) fun v1 h1 hle1 ho1 => ?_
        try simp (disch := first | omega | (simp only [PL]; omega)) only [PS, P1, P2, P3, P4, P5, P6, P7, P8, PA, PB, PC, Nat.reduceAdd, Nat.reduceSub, Nat.reduceMul, Nat.reduceLeDiff, Nat.reduceEqDiff, Nat.succ_ne_self, reduceCtorEq, Int.reduceToNat, Int.cast_ofNat_Int, Int.reduceEq, Int.reduceNe, Int.reduceLT, Int.reduceLE]
        refine i_app encB_len encB_one (ho.le hle1) (ho1.sl encB_len) (by simp only [List.length_cons, List.length_nil]; omega) fun v2 h2 ho2 => ?_
        try simp (disch := first | omega | (simp only [PL]; omega)) only [PS, P1, P2, P3, P4, P5, P6, P7, P8, PA, PB, PC, Nat.reduceAdd, Nat.reduceSub, Nat.reduceMul, Nat.reduceLeDiff, Nat.reduceEqDiff, Nat.succ_ne_self, reduceCtorEq, Int.reduceToNat, Int.cast_ofNat_Int, Int.reduceEq, Int.reduceNe, Int.reduceLT, Int.reduceLE]
        refine i_appstr ho2 (by simp only [List.length_append, List.length_cons, List.length_nil]; omega) fun v3 h3 ho3 => ?_
        try simp (disch := first | omega | (simp only [PL]; omega)) only [PS, P1, P2, P3, P4, P5, P6, P7, P8, PA, PB, PC, Nat.reduceAdd, Nat.reduceSub, Nat.reduceMul, Nat.reduceLeDiff, Nat.reduceEqDiff, Nat.succ_ne_self, reduceCtorEq, Int.reduceToNat, Int.cast_ofNat_Int, Int.reduceEq, Int.reduceNe, Int.reduceLT, Int.reduceLE]
        refine k_loop (i + 1, v3) (by dsimp only; omega) (by try simp only [Pe, and_true, true_and, and_self]) ⟨by omega, ?_⟩
        have e : (List.take (i + 1) f.reads).flatMap Rd.bytes = (List.take i f.reads).flatMap Rd.bytes ++ [b8 (f.reads.getD i default).ant, b8 (f.reads.getD i default).str, b8 (f.reads.getD i default).age] ++ (f.reads.getD i default).tag := by
          rw [take_succ_d default hlt, List.flatMap_append]; simp [Rd.bytes]
        dsimp only
        rw [e]; exact ho3
      · try simp (disch := first | omega | (simp only [PL]; omega)) only [PS, P1, P2, P3, P4, P5, P6, P7, P8, PA, PB, PC, Nat.reduceAdd, Nat.reduceSub, Nat.reduceMul, Nat.reduceLeDiff, Nat.reduceEqDiff, Nat.succ_ne_self, reduceCtorEq, Int.reduceToNat, Int.cast_ofNat_Int, Int.reduceEq, Int.reduceNe, Int.reduceLT, Int.reduceLE]
        have hi' : i = f.reads.length := by omega
        subst hi'
        rw [List.take_length] at ho
        refine k_meet _ ?_ ⟨v, ?_, rfl⟩
        · try simp only [Pe, and_true, true_and, and_self]
        · simpa [Fr.body, c2] using ho
    · try simp (disch := first | omega | (simp only [PL]; omega)) only [PS, P1, P2, P3, P4, P5, P6, P7, P8, PA, PB, PC, Nat.reduceAdd, Nat.reduceSub, Nat.reduceMul, Nat.reduceLeDiff, Nat.reduceEqDiff, Nat.succ_ne_self, reduceCtorEq, Int.reduceToNat, Int.cast_ofNat_Int, Int.reduceEq, Int.reduceNe, Int.reduceLT, Int.reduceLE]
      refine i_cond (fun c3 => ?_) (fun c3 => ?_)
      · try simp (disch := first | omega | (simp only [PL]; omega)) only [PS, P1, P2, P3, P4, P5, P6, P7, P8, PA, PB, PC, Nat.reduceAdd, Nat.reduceSub, Nat.reduceMul, Nat.reduceLeDiff, Nat.reduceEqDiff, Nat.succ_ne_self, reduceCtorEq, Int.reduceToNat, Int.cast_ofNat_Int, Int.reduceEq, Int.reduceNe, Int.reduceLT, Int.reduceLE]
        refine i_bslS encB 1 encB_len [b8 f.warm] (by simp [encB, conv8]) rfl (by simp [maxLen]) fun v1 h1 hle1 ho1 => ?_
        try simp (disch := first | omega | (simp only [PL]; omega)) only [PS, P1, P2, P3, P4, P5, P6, P7, P8, PA, PB, PC, Nat.reduceAdd, Nat.reduceSub, Nat.reduceMul, Nat.reduceLeDiff, Nat.reduceEqDiff, Nat.succ_ne_self, reduceCtorEq, Int.reduceToNat, Int.cast_ofNat_Int, Int.reduceEq, Int.reduceNe, Int.reduceLT, Int.reduceLE]
        refine i_app encB_len encB_one ((OwnS.nil (Heap.le.refl _)).le hle1) (ho1.sl encB_len) (by simp) fun v2 h2 ho2 => ?_
        try simp (disch := first | omega | (simp only [PL]; omega)) only [PS, P1, P2, P3, P4, P5, P6, P7, P8, PA, PB, PC, Nat.reduceAdd, Nat.reduceSub, Nat.reduceMul, Nat.reduceLeDiff, Nat.reduceEqDiff, Nat.succ_ne_self, reduceCtorEq, Int.reduceToNat, Int.cast_ofNat_Int, Int.reduceEq, Int.reduceNe, Int.reduceLT, Int.reduceLE]
        refine k_meet _ ?_ ⟨v2, ?_, rfl⟩
        · try simp only [Pe, and_true, true_and, and_self]
        · simpa [Fr.body, c3] using ho2
      · try simp (disch := first | omega | (simp only [PL]; omega)) only [PS, P1, P2, P3, P4, P5, P6, P7, P8, PA, PB, PC, Nat.reduceAdd, Nat.reduceSub, Nat.reduceMul, Nat.reduceLeDiff, Nat.reduceEqDiff, Nat.succ_ne_self, reduceCtorEq, Int.reduceToNat, Int.cast_ofNat_Int, Int.reduceEq, Int.reduceNe, Int.reduceLT, Int.reduceLE]
        have e : f.body = [] := by
          have h9 := h7 (by omega)
          simp [Fr.body, c3, h9]
        refine k_meet _ ?_ ⟨.slice none 0 0, ?_, rfl⟩
        · try simp only [Pe, and_true, true_and, and_self]
        · rw [e]; exact OwnS.nil (Heap.le.refl _)
end Go.Cw
namespace Go.Cw
open Go

theorem Rd.eqv (h : Heap) : (∀ a b : Rd, o2V h (.eqv (.flat [.int, .int, .int, .str]) true) (.v (.agg a.enc.toArray)) (.v (.agg b.enc.toArray)) = some (.v (.bool (decide (a ≠ b))))) ∧
    (∀ a b : Rd, o2V h (.eqv (.flat [.int, .int, .int, .str]) false) (.v (.agg a.enc.toArray)) (.v (.agg b.enc.toArray)) = some (.v (.bool (decide (a = b))))) := by
  have key : ∀ a b : Rd, cellsEq [.int, .int, .int, .str] a.enc b.enc = some (decide (a = b)) := by
    rintro ⟨a1, a2, a3, a4⟩ ⟨b1, b2, b3, b4⟩
    simp only [Rd.enc, cellsEq_int, cellsEq_str, cellsEq_nil, Rd.mk.injEq]
    by_cases e1 : a1 = b1 <;> by_cases e2 : a2 = b2 <;> by_cases e3 : a3 = b3 <;> by_cases e4 : a4 = b4 <;> simp [e1, e2, e3, e4]
  constructor <;> (intro a b; simp [o2V, eqV, key])

structure FrR where
  ty : Int
  sv : Value
  warm : Int
  deriving Inhabited
def FrR.enc (r : FrR) : List Value := [.int .i64 r.ty, r.sv, .int .i64 r.warm]
def FrR.ok (h : Heap) (r : FrR) (f : Fr) : Prop := r.ty = f.ty ∧ r.warm = f.warm ∧ Sl Rd.enc h r.sv f.reads
/-- a slice of frames -/
def FrsV (h : Heap) (v : Value) (fs : List Fr) : Prop := ∃ rs : List FrR, Sl FrR.enc h v rs ∧ rs.length = fs.length ∧ ∀ i, i < fs.length → FrR.ok h (rs.getD i default) (fs.getD i default)
theorem FrsV.le {h h' : Heap} (hl : Heap.le h h') {v : Value} {f : List Fr} (hv : FrsV h v f) : FrsV h' v f := by
  obtain ⟨rs, h1, h2, h3⟩ := hv
  exact ⟨rs, h1.le hl, h2, fun i hi => let ⟨a, b, c⟩ := h3 i hi; ⟨a, b, c.le hl⟩⟩
theorem FrR.frv {h : Heap} {r : FrR} {f : Fr} (hk : FrR.ok h r f) : FrV h (.agg r.enc.toArray) f := by
  obtain ⟨h1, h2, h3⟩ := hk
  exact ⟨r.sv, by simp [FrR.enc, h1, h2], h3⟩

theorem take_eq_succ {α : Type} (d : α) {l m : List α} {i : Nat} (hl : i < l.length) (hm : i < m.length) (h1 : l.take i = m.take i) (h2 : l.getD i d = m.getD i d) : l.take (i + 1) = m.take (i + 1) := by
  rw [take_succ_d d hl, take_succ_d d hm, h1, h2]
theorem ne_of_getD {α : Type} (d : α) {l m : List α} {i : Nat} (h2 : l.getD i d ≠ m.getD i d) : l ≠ m := by
  intro e; exact h2 (by rw [e])
theorem eq_of_take {α : Type} {l m : List α} (hl : l.length = m.length) (h1 : l.take l.length = m.take l.length) : l = m := by
  rw [List.take_length] at h1
  rw [h1, hl, List.take_length]

def S21 : Spec := fun args h K => ∃ v w fs gs, args = [v, w] ∧ FrsV h v fs ∧ FrsV h w gs ∧ fs.length < 2 ^ 62 ∧ (∀ f ∈ fs, f.reads.length < 2 ^ 62) ∧ K (.bool (decide (fs = gs))) h

theorem F21_ok {N : Num} {Γ : Ctx} [GoodC Γ] : Sat S21 (SF N Γ F21) := by
  rintro _ h K ⟨v, w, fs, gs, rfl, ⟨rs, hs, hl, hrs⟩, ⟨rs', hs', hl', hrs'⟩, hsz, hsz2, hK⟩
  have R := hs.rules 3 (fun _ => rfl) default
  have R' := hs'.rules 3 (fun _ => rfl) default
  rw [hl] at R
  rw [hl'] at R'
  refine i_fun rfl ?_
  simp only [F21, env0, List.map, List.length, List.replicate, List.cons_append, List.nil_append, Nat.reduceSub, Nat.reduceAdd]
  try simp (disch := first | omega | (simp only [PL]; omega)) only [PS, P1, P2, P3, P4, P5, P6, P7, P8, PA, PB, PC, Nat.reduceAdd, Nat.reduceSub, Nat.reduceMul, Nat.reduceLeDiff, Nat.reduceEqDiff, Nat.succ_ne_self, reduceCtorEq, Int.reduceToNat, Int.cast_ofNat_Int, Int.reduceEq, Int.reduceNe, Int.reduceLT, Int.reduceLE, R, R']
  refine i_cond (fun c1 => ?_) (fun c1 => ?_)
  · try simp (disch := first | omega | (simp only [PL]; omega)) only [PS, P1, P2, P3, P4, P5, P6, P7, P8, PA, PB, PC, Nat.reduceAdd, Nat.reduceSub, Nat.reduceMul, Nat.reduceLeDiff, Nat.reduceEqDiff, Nat.succ_ne_self, reduceCtorEq, Int.reduceToNat, Int.cast_ofNat_Int, Int.reduceEq, Int.reduceNe, Int.reduceLT, Int.reduceLE]
    have : fs ≠ gs := by intro e; subst e; omega
    rw [decide_eq_false this] at hK
    exact hK
  have hfg : fs.length = gs.length := by omega
  try simp (disch := first | omega | (simp only [PL]; omega)) only [PS, P1, P2, P3, P4, P5, P6, P7, P8, PA, PB, PC, Nat.reduceAdd, Nat.reduceSub, Nat.reduceMul, Nat.reduceLeDiff, Nat.reduceEqDiff, Nat.succ_ne_self, reduceCtorEq, Int.reduceToNat, Int.cast_ofNat_Int, Int.reduceEq, Int.reduceNe, Int.reduceLT, Int.reduceLE]
  refine i_loop (fun i : Nat => [some v, some w, none, some (.int .i64 i), none, none, none, none, none, none]) (fun i h' => i ≤ fs.length ∧ h' = h ∧ fs.take i = gs.take i) (fun i => fs.length - i) 0 (by try simp only [Pe, and_true, true_and, and_self]; rfl) ⟨by omega, rfl, rfl⟩ ?_
  rintro i h' ⟨hi, rfl, ht⟩
  try simp (disch := first | omega | (simp only [PL]; omega)) only [PS, P1, P2, P3, P4, P5, P6, P7, P8, PA, PB, PC, Nat.reduceAdd, Nat.reduceSub, Nat.reduceMul, Nat.reduceLeDiff, Nat.reduceEqDiff, Nat.succ_ne_self, reduceCtorEq, Int.reduceToNat, Int.cast_ofNat_Int, Int.reduceEq, Int.reduceNe, Int.reduceLT, Int.reduceLE, R, R']
  refine i_cond (fun c2 => ?_) (fun c2 => ?_)
  · have hi1 : i < fs.length := by omega
    have hi2 : i < gs.length := by omega
    obtain ⟨t1, t2, t3⟩ := hrs i hi1
    obtain ⟨u1, u2, u3⟩ := hrs' i hi2
    have Q := t3.rules 4 (fun _ => rfl) default
    have Q' := u3.rules 4 (fun _ => rfl) default
    try simp (disch := first | omega | (simp only [PL]; omega)) only [PS, P1, P2, P3, P4, P5, P6, P7, P8, PA, PB, PC, Nat.reduceAdd, Nat.reduceSub, Nat.reduceMul, Nat.reduceLeDiff, Nat.reduceEqDiff, Nat.succ_ne_self, reduceCtorEq, Int.reduceToNat, Int.cast_ofNat_Int, Int.reduceEq, Int.reduceNe, Int.reduceLT, Int.reduceLE, R, R', FrR.enc, Q, Q', t1, t2, u1, u2]
    refine i_cond (fun c3 => ?_) (fun c3 => ?_)
    · try simp (disch := first | omega | (simp only [PL]; omega)) only [PS, P1, P2, P3, P4, P5, P6, P7, P8, PA, PB, PC, Nat.reduceAdd, Nat.reduceSub, Nat.reduceMul, Nat.reduceLeDiff, Nat.reduceEqDiff, Nat.succ_ne_self, reduceCtorEq, Int.reduceToNat, Int.cast_ofNat_Int, Int.reduceEq, Int.reduceNe, Int.reduceLT, Int.reduceLE]
      have : fs ≠ gs := by
        refine ne_of_getD default (i := i) ?_
        intro e; rw [e] at c3; simp at c3
      rw [decide_eq_false this] at hK
      exact hK
    have hz : (fs.getD i default).reads.length < 2 ^ 62 := hsz2 _ (getD_mem default hi1)
    try simp (disch := first | omega | (simp only [PL]; omega)) only [PS, P1, P2, P3, P4, P5, P6, P7, P8, PA, PB, PC, Nat.reduceAdd, Nat.reduceSub, Nat.reduceMul, Nat.reduceLeDiff, Nat.reduceEqDiff, Nat.succ_ne_self, reduceCtorEq, Int.reduceToNat, Int.cast_ofNat_Int, Int.reduceEq, Int.reduceNe, Int.reduceLT, Int.reduceLE]
    refine i_loop (fun k : Nat => [some v, some w, none, some (.int .i64 i), some (.int .i64 k), none, none, none, none, none])
      (fun k h'' => k ≤ (fs.getD i default).reads.length ∧ h'' = h' ∧ (fs.getD i default).reads.take k = (gs.getD i default).reads.take k) (fun k => (fs.getD i default).reads.length - k) 0 (by try simp only [Pe, and_true, true_and, and_self]; rfl) ⟨by omega, rfl, rfl⟩ ?_
    rintro k _ ⟨hk, rfl, htk⟩
    try simp (disch := first | omega | (simp only [PL]; omega)) only [PS, P1, P2, P3, P4, P5, P6, P7, P8, PA, PB, PC, Nat.reduceAdd, Nat.reduceSub, Nat.reduceMul, Nat.reduceLeDiff, Nat.reduceEqDiff, Nat.succ_ne_self, reduceCtorEq, Int.reduceToNat, Int.cast_ofNat_Int, Int.reduceEq, Int.reduceNe, Int.reduceLT, Int.reduceLE, R, R', FrR.enc, Q, Q', t1, t2, u1, u2]
    refine i_cond (fun c4 => ?_) (fun c4 => ?_)
    · try simp (disch := first | omega | (simp only [PL]; omega)) only [PS, P1, P2, P3, P4, P5, P6, P7, P8, PA, PB, PC, Nat.reduceAdd, Nat.reduceSub, Nat.reduceMul, Nat.reduceLeDiff, Nat.reduceEqDiff, Nat.succ_ne_self, reduceCtorEq, Int.reduceToNat, Int.cast_ofNat_Int, Int.reduceEq, Int.reduceNe, Int.reduceLT, Int.reduceLE, R, R', FrR.enc, Q, Q', t1, t2, u1, u2, Rd.eqv]
      have hk1 : k < (fs.getD i default).reads.length := by omega
      have hk2 : k < (gs.getD i default).reads.length := by omega
      refine i_cond (fun c5 => ?_) (fun c5 => ?_)
      · try simp (disch := first | omega | (simp only [PL]; omega)) only [PS, P1, P2, P3, P4, P5, P6, P7, P8, PA, PB, PC, Nat.reduceAdd, Nat.reduceSub, Nat.reduceMul, Nat.reduceLeDiff, Nat.reduceEqDiff, Nat.succ_ne_self, reduceCtorEq, Int.reduceToNat, Int.cast_ofNat_Int, Int.reduceEq, Int.reduceNe, Int.reduceLT, Int.reduceLE]
        have : fs ≠ gs := by
          refine ne_of_getD default (i := i) ?_
          intro e; rw [e] at c5; simp at c5
        rw [decide_eq_false this] at hK
        exact hK
      · try simp (disch := first | omega | (simp only [PL]; omega)) only [PS, P1, P2, P3, P4, P5, P6, P7, P8, PA, PB, PC, Nat.reduceAdd, Nat.reduceSub, Nat.reduceMul, Nat.reduceLeDiff, Nat.reduceEqDiff, Nat.succ_ne_self, reduceCtorEq, Int.reduceToNat, Int.cast_ofNat_Int, Int.reduceEq, Int.reduceNe, Int.reduceLT, Int.reduceLE]
        exact k_loop (k + 1) (by omega) (by try simp only [Pe, and_true, true_and, and_self]) ⟨by omega, rfl, take_eq_succ default hk1 hk2 htk (by simpa using c5)⟩
    · try simp (disch := first | omega | (simp only [PL]; omega)) only [PS, P1, P2, P3, P4, P5, P6, P7, P8, PA, PB, PC, Nat.reduceAdd, Nat.reduceSub, Nat.reduceMul, Nat.reduceLeDiff, Nat.reduceEqDiff, Nat.succ_ne_self, reduceCtorEq, Int.reduceToNat, Int.cast_ofNat_Int, Int.reduceEq, Int.reduceNe, Int.reduceLT, Int.reduceLE]
      refine k_loop (i + 1) (by omega) (by try simp only [Pe, and_true, true_and, and_self]) ⟨by omega, rfl, take_eq_succ default hi1 hi2 ht ?_⟩
      have hk' : k = (fs.getD i default).reads.length := by omega
      subst hk'
      have e3 := eq_of_take (by omega) htk
      generalize fs.getD i default = x at *
      generalize gs.getD i default = y at *
      cases x; cases y
      simp only at c3 e3
      simp only [Fr.mk.injEq]
      exact ⟨by omega, e3, by omega⟩
  · try simp (disch := first | omega | (simp only [PL]; omega)) only [PS, P1, P2, P3, P4, P5, P6, P7, P8, PA, PB, PC, Nat.reduceAdd, Nat.reduceSub, Nat.reduceMul, Nat.reduceLeDiff, Nat.reduceEqDiff, Nat.succ_ne_self, reduceCtorEq, Int.reduceToNat, Int.cast_ofNat_Int, Int.reduceEq, Int.reduceNe, Int.reduceLT, Int.reduceLE]
    have hi' : i = fs.length := by omega
    subst hi'
    have e3 := eq_of_take hfg ht
    rw [decide_eq_true e3] at hK
    exact hK
end Go.Cw
namespace Go.Cw
open Go

def rdOf (b : List UInt8) : Rd := ⟨(b.getD 0 0).toNat, (b.getD 1 0).toNat, (b.getD 2 0).toNat, (b.drop 3).take 8⟩
def rds : Nat → List UInt8 → List Rd
  | 0, _ => []
  | n + 1, b => rdOf b :: rds n (b.drop 11)
def Fr.zero : Fr := ⟨0, [], 0⟩
def decode (ty : Nat) (b : List UInt8) : Fr := ⟨ty, if ty = 1 then rds (b.length / 11) b else [], if ty = 3 ∧ b.length = 1 then (b.getD 0 0).toNat else 0⟩
/-- the frame at the beginning, by the document -/
def fAt (s : List UInt8) : Option (Fr × Nat) :=
  if s.length < 4 ∨ s.getD 0 0 ≠ 165 ∨ 44 < (s.getD 1 0).toNat ∨ s.length < 4 + (s.getD 1 0).toNat then none
  else
    let n := (s.getD 1 0).toNat
    let f := decode (s.getD 2 0).toNat ((s.drop 3).take n)
    if f.fault ≠ 0 ∨ f.bytes ≠ s.take (4 + n) then none else some (f, 4 + n)
def begins (s : List UInt8) : Prop := if s.length = 1 then s.getD 0 0 = 165 else s.getD 0 0 = 165 ∧ (s.getD 1 0).toNat ≤ 44 ∧ s.length < 4 + (s.getD 1 0).toNat
instance (s : List UInt8) : Decidable (begins s) := by unfold begins; infer_instance
/-- a body as a frame, by the program -/
def bodyOf (kind : Nat) (b : List UInt8) : Option Fr :=
  if kind = 1 ∧ b.length % 11 = 0 ∧ b.length ≤ 44 then
    if ∀ r ∈ rds (b.length / 11) b, r.ant < 4 then some ⟨1, rds (b.length / 11) b, 0⟩ else none
  else if kind = 2 ∧ b = [] then some ⟨2, [], 0⟩
  else if kind = 3 ∧ b.length = 1 then some ⟨3, [], (b.getD 0 0).toNat⟩
  else none
/-- the frame at the beginning, by the program: a frame and how many bytes it takes; or must it wait? -/
def first (s : List UInt8) : Option (Fr × Nat) × Bool :=
  if s.getD 0 0 ≠ 165 then (none, false)
  else if s.length < 2 then (none, true)
  else
    let n := 4 + (s.getD 1 0).toNat
    if 48 < n then (none, false)
    else if s.length < n then (none, true)
    else if 255 - bsum (s.take (n - 1)) ≠ (s.getD (n - 1) 0).toNat then (none, false)
    else ((bodyOf (s.getD 2 0).toNat ((s.take (n - 1)).drop 3)).map fun f => (f, n), false)

theorem rds_bytes : ∀ (n : Nat) (b : List UInt8), n * 11 ≤ b.length → (rds n b).flatMap Rd.bytes = b.take (n * 11) := by
  intro n
  induction n with
  | zero => intro b _; simp [rds]
  | succ n ih =>
    intro b hb
    have hl : 11 ≤ b.length := by omega
    simp only [rds, List.flatMap_cons]
    rw [ih _ (by rw [List.length_drop]; omega)]
    have e : b.take ((n + 1) * 11) = b.take 11 ++ (b.drop 11).take (n * 11) := by
      rw [show (n + 1) * 11 = 11 + n * 11 by omega, List.take_add]
    rw [e]
    congr 1
    match b, hl with
    | b0 :: b1 :: b2 :: r, _ => simp [rdOf, Rd.bytes, b8_u]
theorem rds_length : ∀ (n : Nat) (b : List UInt8), (rds n b).length = n := by
  intro n
  induction n with
  | zero => intro b; rfl
  | succ n ih => intro b; simp [rds, ih]
theorem rds_fine : ∀ (n : Nat) (b : List UInt8), n * 11 ≤ b.length → ∀ r ∈ rds n b, 0 ≤ r.ant ∧ 0 ≤ r.str ∧ r.str ≤ 255 ∧ 0 ≤ r.age ∧ r.age ≤ 255 ∧ r.tag.length = 8 := by
  intro n
  induction n with
  | zero => intro b _ r hr; simp [rds] at hr
  | succ n ih =>
    intro b hb r hr
    simp only [rds, List.mem_cons] at hr
    rcases hr with rfl | hr
    · have h1 := (b.getD 1 0).toNat_lt
      have h2 := (b.getD 2 0).toNat_lt
      simp only [rdOf, List.length_take, List.length_drop]
      omega
    · exact ih _ (by rw [List.length_drop]; omega) r hr

theorem front_bytes (f : Fr) (n : Nat) (hn : n ≤ 44) (ty ck : UInt8) (B : List UInt8) (hB : B.length = n) (hty : f.ty = ty.toNat) :
    f.bytes = [165, UInt8.ofNat n, ty] ++ B ++ [ck] ↔ f.body = B ∧ ck.toNat = 255 - bsum ([165, UInt8.ofNat n, ty] ++ B) := by
  have hb : b8 f.ty = ty := by rw [hty, b8_u]
  have hn8 : b8 (n : Int) = UInt8.ofNat n := by
    apply UInt8.toNat_inj.1
    have := b8_val (n : Int)
    simp; omega
  have hs : ∀ m : Nat, b8 (255 - (m : Int) % 256) = ck ↔ ck.toNat = 255 - m % 256 := by
    intro m
    rw [← UInt8.toNat_inj]
    have := b8_val (255 - (m : Int) % 256)
    omega
  constructor
  · intro h
    have hl := congrArg List.length h
    simp only [Fr.bytes, Fr.front, List.length_append, List.length_cons, List.length_nil] at hl
    have hl2 : f.body.length = n := by omega
    have hfr : f.front = [165, UInt8.ofNat n, ty] ++ f.body := by simp only [Fr.front, hl2, hb, hn8]
    simp only [Fr.bytes, hfr, List.cons_append, List.nil_append, List.cons.injEq, true_and] at h
    have h3 := List.append_inj h (by omega)
    refine ⟨h3.1, ?_⟩
    rw [bsum_eq, ← h3.1]
    exact (hs _).1 (by simpa using h3.2)
  · rintro ⟨h1, h2⟩
    have hfr : f.front = [165, UInt8.ofNat n, ty] ++ B := by simp only [Fr.front, h1, hB, hb, hn8]
    simp only [Fr.bytes, hfr]
    rw [bsum_eq] at h2
    rw [(hs _).2 h2]

theorem Fr.fault_zero {f : Fr} : f.fault = 0 ↔ 1 ≤ f.ty ∧ f.ty ≤ 3 ∧ (f.ty ≠ 1 → f.reads = []) ∧ (f.ty ≠ 3 → f.warm = 0) ∧ 0 ≤ f.warm ∧ f.warm ≤ 255 ∧ f.reads.length ≤ 4 ∧ ∀ r ∈ f.reads, ¬ r.bad := by
  constructor
  · intro h
    obtain ⟨h1, h2, h3, h4, h5, h6, h7, h8⟩ := Fr.fine h
    exact ⟨h1, h2, h7, h8, h5, h6, h3, h4⟩
  · rintro ⟨h1, h2, h7, h8, h5, h6, h3, h4⟩
    unfold Fr.fault
    rw [if_neg (by omega), if_neg, if_neg (by omega), if_neg (by omega), if_neg]
    · rintro ⟨r, hr, hb⟩; exact h4 r hr hb
    · rintro (⟨a, b⟩ | ⟨a, b⟩)
      · rw [h7 a] at b; simp at b
      · exact b (h8 a)

/-- a body that is a frame's, by both -/
theorem body_law (ty : UInt8) (B : List UInt8) (hn : B.length ≤ 44) : ((decode ty.toNat B).fault = 0 ∧ (decode ty.toNat B).body = B → bodyOf ty.toNat B = some (decode ty.toNat B)) ∧
    (¬ ((decode ty.toNat B).fault = 0 ∧ (decode ty.toNat B).body = B) → bodyOf ty.toNat B = none) := by
  by_cases t1 : ty.toNat = 1
  · have hd : decode ty.toNat B = ⟨1, rds (B.length / 11) B, 0⟩ := by simp [decode, t1]
    have hbody : (⟨1, rds (B.length / 11) B, 0⟩ : Fr).body = B.take (B.length / 11 * 11) := by
      simp only [Fr.body]
      rw [if_neg (by decide), rds_bytes _ _ (Nat.div_mul_le_self _ _)]
    have hfine := rds_fine (B.length / 11) B (Nat.div_mul_le_self _ _)
    have hb2 : B.take (B.length / 11 * 11) = B ↔ B.length % 11 = 0 := by
      constructor
      · intro h; have := congrArg List.length h; rw [List.length_take] at this; omega
      · intro h; exact List.take_of_length_le (by omega)
    have hf : (⟨1, rds (B.length / 11) B, 0⟩ : Fr).fault = 0 ↔ ∀ r ∈ rds (B.length / 11) B, r.ant < 4 := by
      rw [Fr.fault_zero]
      simp only [rds_length]
      constructor
      · rintro ⟨_, _, _, _, _, _, _, h⟩ r hr
        have := h r hr; simp only [Rd.bad] at this; omega
      · intro h
        refine ⟨by decide, by decide, by intro h; exact absurd rfl h, by intro _; trivial, by decide, by decide, by omega, ?_⟩
        intro r hr hb
        have h1 := hfine r hr; have h2 := h r hr
        simp only [Rd.bad] at hb; omega
    rw [hd, hbody, hb2, hf]
    simp only [bodyOf, t1, hn, true_and, and_true]
    constructor
    · rintro ⟨h1, h2⟩; rw [if_pos h2, if_pos h1]
    · intro h
      by_cases h2 : B.length % 11 = 0
      · rw [if_pos h2, if_neg (fun h1 => h ⟨h1, h2⟩)]
      · rw [if_neg h2]; simp
  · by_cases t2 : ty.toNat = 2
    · have hd : decode ty.toNat B = ⟨2, [], 0⟩ := by simp [decode, t2]
      have hbody : (⟨2, [], 0⟩ : Fr).body = [] := by simp [Fr.body]
      have hf : (⟨2, [], 0⟩ : Fr).fault = 0 := by decide
      rw [hd, hbody, hf]
      simp only [bodyOf, t2, true_and]
      constructor
      · intro h; rw [if_neg (by omega), if_pos h.symm]
      · intro h; rw [if_neg (by omega), if_neg (fun e => h e.symm), if_neg (by omega)]
    · by_cases t3 : ty.toNat = 3
      · simp only [bodyOf, t3]
        by_cases hl : B.length = 1
        · have hd : decode 3 B = ⟨3, [], (B.getD 0 0).toNat⟩ := by simp [decode, hl]
          rw [hd]
          have h0 := (B.getD 0 0).toNat_lt
          have hbody : (⟨3, [], (B.getD 0 0).toNat⟩ : Fr).body = B := by
            match B, hl with
            | [x], _ => simp [Fr.body, b8_u]
          have hf : (⟨3, [], (B.getD 0 0).toNat⟩ : Fr).fault = 0 := by
            rw [Fr.fault_zero]; exact ⟨by dsimp only; omega, by dsimp only; omega, by intro _; rfl, by intro h; exact absurd rfl h, by dsimp only; omega, by dsimp only; omega, by simp, by intro r hr; simp at hr⟩
          rw [hbody, hf]
          simp [hl]
        · have hd : decode 3 B = ⟨3, [], 0⟩ := by simp [decode, hl]
          rw [hd]
          have : ¬ ((⟨3, [], 0⟩ : Fr).fault = 0 ∧ (⟨3, [], 0⟩ : Fr).body = B) := by
            rintro ⟨_, h⟩; rw [← h] at hl; simp [Fr.body] at hl
          simp [this, hl]
      · have : ¬ ((decode ty.toNat B).fault = 0 ∧ (decode ty.toNat B).body = B) := by
          rintro ⟨h, _⟩
          rw [Fr.fault_zero] at h
          simp only [decode] at h
          omega
        simp [this, bodyOf, t1, t2, t3]

/-- BOTH FIND THE SAME FRAME. -/
theorem first_law (s : List UInt8) (hs : s ≠ []) : (first s).1 = fAt s ∧ (fAt s = none → ((first s).2 = true ↔ begins s)) ∧ (fAt s ≠ none → (first s).2 = false) := by
  have hl : 0 < s.length := List.length_pos_iff.2 hs
  by_cases h0 : s.getD 0 0 = 165
  rotate_left
  · have e1 : first s = (none, false) := by unfold first; rw [if_pos h0]
    have e2 : fAt s = none := by unfold fAt; rw [if_pos (.inr (.inl h0))]
    have e3 : ¬ begins s := by unfold begins; split; exact h0; intro h; exact h0 h.1
    rw [e1, e2]; simp [e3]
  by_cases h1 : s.length < 2
  · have e1 : first s = (none, true) := by unfold first; rw [if_neg (fun e => e h0), if_pos h1]
    have e2 : fAt s = none := by unfold fAt; rw [if_pos (.inl (by omega))]
    have e3 : begins s := by unfold begins; rw [if_pos (by omega)]; exact h0
    rw [e1, e2]; simp [e3]
  by_cases h2 : 44 < (s.getD 1 0).toNat
  · have e1 : first s = (none, false) := by unfold first; rw [if_neg (fun e => e h0), if_neg h1]; simp only; rw [if_pos (by omega)]
    have e2 : fAt s = none := by unfold fAt; rw [if_pos (by omega)]
    have e3 : ¬ begins s := by unfold begins; rw [if_neg (by omega)]; omega
    rw [e1, e2]; simp [e3]
  by_cases h3 : s.length < 4 + (s.getD 1 0).toNat
  · have e1 : first s = (none, true) := by unfold first; rw [if_neg (fun e => e h0), if_neg h1]; simp only; rw [if_neg (by omega), if_pos h3]
    have e2 : fAt s = none := by unfold fAt; rw [if_pos (by omega)]
    have e3 : begins s := by unfold begins; rw [if_neg (by omega)]; exact ⟨h0, by omega, h3⟩
    rw [e1, e2]; simp [e3]
  have e3 : ¬ begins s := by unfold begins; rw [if_neg (by omega)]; omega
  have hn : (s.getD 1 0).toNat ≤ 44 := by omega
  generalize hnn : (s.getD 1 0).toNat = n at *
  have hB : ((s.drop 3).take n).length = n := by simp only [List.length_take, List.length_drop]; omega
  have hs1 : s.take (4 + n) = [165, UInt8.ofNat n, s.getD 2 0] ++ (s.drop 3).take n ++ [s.getD (3 + n) 0] := by
    have h4 : s.take (4 + n) = s.take (3 + n) ++ [s.getD (3 + n) 0] := by rw [show 4 + n = (3 + n) + 1 by omega, take_succ_d 0 (by omega)]
    have h5 : s.take (3 + n) = s.take 3 ++ (s.drop 3).take n := by rw [List.take_add]
    have h6 : s.take 3 = [165, UInt8.ofNat n, s.getD 2 0] := by
      match s, h1, h3 with
      | [a, b], _, h3 => simp at h3; omega
      | a :: b :: c :: r, _, _ => simp at h0 hnn ⊢; exact ⟨h0, by rw [← hnn]; simp⟩
    rw [h4, h5, h6]
  have hs2 : s.take (4 + n - 1) = [165, UInt8.ofNat n, s.getD 2 0] ++ (s.drop 3).take n := by
    have : s.take (4 + n - 1) = (s.take (4 + n)).take (3 + n) := by rw [List.take_take, show min (3 + n) (4 + n) = 4 + n - 1 by omega]
    rw [this, hs1, List.take_left' (by simp only [List.length_append, List.length_cons, List.length_nil, hB] <;> omega)]
  have hs3 : (s.take (4 + n - 1)).drop 3 = (s.drop 3).take n := by rw [hs2]; rfl
  have law := body_law (s.getD 2 0) ((s.drop 3).take n) (by omega)
  have fb := front_bytes (decode (s.getD 2 0).toNat ((s.drop 3).take n)) n hn (s.getD 2 0) (s.getD (3 + n) 0) _ hB rfl
  rw [← hs1] at fb
  have e1 : first s = if 255 - bsum (s.take (4 + n - 1)) ≠ (s.getD (4 + n - 1) 0).toNat then (none, false) else ((bodyOf (s.getD 2 0).toNat ((s.take (4 + n - 1)).drop 3)).map fun f => (f, 4 + n), false) := by
    unfold first; rw [if_neg (fun e => e h0), if_neg h1]; simp only [hnn]; rw [if_neg (by omega), if_neg (by omega)]
  have e2 : fAt s = if (decode (s.getD 2 0).toNat ((s.drop 3).take n)).fault ≠ 0 ∨ (decode (s.getD 2 0).toNat ((s.drop 3).take n)).bytes ≠ s.take (4 + n) then none else some (decode (s.getD 2 0).toNat ((s.drop 3).take n), 4 + n) := by
    unfold fAt; rw [if_neg (by rw [hnn]; rintro (h | h | h | h); omega; exact h h0; omega; omega)]; simp only [hnn]
  rw [show 4 + n - 1 = 3 + n by omega] at e1 hs2 hs3
  rw [hs3, hs2] at e1
  rw [e1, e2]
  by_cases hc : (s.getD (3 + n) 0).toNat = 255 - bsum ([165, UInt8.ofNat n, s.getD 2 0] ++ (s.drop 3).take n)
  · rw [if_neg (by omega)]
    by_cases hb : (decode (s.getD 2 0).toNat ((s.drop 3).take n)).fault = 0 ∧ (decode (s.getD 2 0).toNat ((s.drop 3).take n)).body = (s.drop 3).take n
    · rw [law.1 hb, if_neg]
      · simp
      · simp only [ne_eq, fb]; rw [hb.1, hb.2]; simp; exact hc
    · rw [law.2 hb, if_pos]
      · simp [e3]
      · simp only [ne_eq, fb]
        by_cases hf : (decode (s.getD 2 0).toNat ((s.drop 3).take n)).fault = 0
        · exact .inr fun h => hb ⟨hf, h.1⟩
        · exact .inl hf
  · rw [if_pos (by omega), if_pos]
    · simp [e3]
    · simp only [ne_eq, fb]; exact .inr fun h => hc h.2
end Go.Cw
/- Things that are written: what stays. -/
namespace Go.Cw
open Go

/-- the cells of a thing that may be written -/
def objAt (h : Heap) (a : Addr) (cs : List Value) : Prop :=
  a.spot = none ∧ ∃ c t, h a.block = some (.cells c t (0, 0)) ∧ a.off + cs.length ≤ c.size ∧ ∀ i, i < cs.length → c[a.off + i]? = cs[i]?
theorem objAt.le {h h' : Heap} {a : Addr} {cs : List Value} (ho : objAt h a cs) (hl : Heap.le h h') : objAt h' a cs := by
  obtain ⟨h1, c, t, h2, h3, h4⟩ := ho; exact ⟨h1, c, t, hl _ _ h2, h3, h4⟩
theorem objAt.row {h : Heap} {a : Addr} {cs : List Value} (ho : objAt h a cs) : rowAt h a cs := by
  obtain ⟨h1, c, t, h2, h3, h4⟩ := ho; exact ⟨h1, c, t, _, h2, h3, h4⟩
/-- what is read of it -/
theorem objAt.rules {h : Heap} {a : Addr} {cs : List Value} (ho : objAt h a cs) : (∀ j, j < cs.length → h.cell (a.add j) = cs[j]?) ∧ (0 < cs.length → h.cell a = cs[0]?) ∧ h.row a cs.length = some cs.toArray := by
  have hr := ho.row
  refine ⟨fun j hj => by rw [hr.cell hj, List.getElem?_eq_getElem hj], fun hj => ?_, ?_⟩
  · have := hr.cell hj; rw [addr_zero] at this; rw [this, List.getElem?_eq_getElem hj]
  · have := hr.row (i := 0) (n := cs.length) (by omega)
    rw [addr_zero] at this; rw [this]; simp

/-- all that was known stays, but for some cells of one block -/
def keeps (a : Addr) (n : Nat) (h h' : Heap) : Prop :=
  (∀ b o, b ≠ a.block → h b = some o → h' b = some o) ∧
  (∀ c t fz, h a.block = some (.cells c t fz) → ∃ c', h' a.block = some (.cells c' t fz) ∧ c'.size = c.size ∧ ∀ i, i < a.off ∨ a.off + n ≤ i → c'[i]? = c[i]?)
theorem keeps.of_le {a : Addr} {n : Nat} {h h' : Heap} (hl : Heap.le h h') : keeps a n h h' := ⟨fun b o _ hb => hl b o hb, fun c t fz hc => ⟨c, hl _ _ hc, rfl, fun _ _ => rfl⟩⟩
theorem keeps.refl (a : Addr) (n : Nat) (h : Heap) : keeps a n h h := .of_le (Heap.le.refl h)
theorem keeps.trans {a : Addr} {n : Nat} {h h' h'' : Heap} (k1 : keeps a n h h') (k2 : keeps a n h' h'') : keeps a n h h'' := by
  refine ⟨fun b o hb h1 => k2.1 b o hb (k1.1 b o hb h1), fun c t fz hc => ?_⟩
  obtain ⟨c', h1, h2, h3⟩ := k1.2 c t fz hc
  obtain ⟨c'', h4, h5, h6⟩ := k2.2 c' t fz h1
  exact ⟨c'', h4, h5.trans h2, fun i hi => (h6 i hi).trans (h3 i hi)⟩
theorem keeps.le {a : Addr} {n : Nat} {g h h' : Heap} (k : keeps a n h h') (hg : Heap.le g h) (hn : g a.block = none) : Heap.le g h' := by
  intro b o hb
  exact k.1 b o (by intro e; subst e; rw [hn] at hb; cases hb) (hg b o hb)

/-- what is new -/
def fr (h h' : Heap) : Heap := fun b => match h b with
  | none => h' b
  | some _ => none
theorem fr_le (h h' : Heap) : Heap.le (fr h h') h' := by
  intro b o hb; simp only [fr] at hb; split at hb
  · exact hb
  · cases hb
theorem fr_none {h h' : Heap} {b : Nat} {o : Obj} (hb : h b = some o) : fr h h' b = none := by simp [fr, hb]
theorem fr_mono {h h' h'' : Heap} (hl : Heap.le h' h'') : Heap.le (fr h h') (fr h h'') := by
  intro b o hb; simp only [fr] at hb ⊢; split at hb
  · exact hl b o hb
  · cases hb
/-- of more that was there less is new -/
theorem fr_anti {g h h' : Heap} (hl : ∀ b, h b = none → g b = none) : Heap.le (fr h h') (fr g h') := by
  intro b o hb; simp only [fr] at hb ⊢
  split at hb
  · rename_i h1; rw [hl b h1]; exact hb
  · cases hb
theorem le_none {g h : Heap} (hl : Heap.le g h) : ∀ b, h b = none → g b = none := by
  intro b hb
  cases hg : g b with
  | none => rfl
  | some o => rw [hl b o hg] at hb; cases hb
theorem keeps_none {a : Addr} {n : Nat} {h h' : Heap} (k : keeps a n h h') {o : Obj} (ha : h' a.block = some o) : True := trivial

def join (g g' : Heap) : Heap := fun b => (g b).orElse fun _ => g' b
theorem join_l (g g' : Heap) : Heap.le g (join g g') := by intro b o hb; simp [join, hb]
theorem join_r {g g' h : Heap} (h1 : Heap.le g h) (h2 : Heap.le g' h) : Heap.le g' (join g g') := by
  intro b o hb
  simp only [join]
  cases hg : g b with
  | none => simpa using hb
  | some o' => have a1 := h1 b o' hg; have a2 := h2 b o hb; rw [a1] at a2; simpa using a2
theorem join_le {g g' h : Heap} (h1 : Heap.le g h) (h2 : Heap.le g' h) : Heap.le (join g g') h := by
  intro b o hb
  simp only [join] at hb
  cases hg : g b with
  | none => rw [hg] at hb; exact h2 b o (by simpa using hb)
  | some o' => rw [hg] at hb; simp at hb; subst hb; exact h1 b _ hg
theorem join_none {g g' : Heap} {b : Nat} (h1 : g b = none) (h2 : g' b = none) : join g g' b = none := by simp [join, h1, h2]

theorem OwnS.grow {α : Type} {enc : α → List Value} {sz : Nat} {g h h1 : Heap} {v : Value} {l : List α} (ho : OwnS enc sz g h v l) (hl : Heap.le h h1) : OwnS enc sz (join g (fr h h1)) h1 v l := by
  obtain ⟨a0, a, cap, h2, h3, h4, h5⟩ := ho
  refine ⟨join_le (a0.trans hl) (fr_le _ _), a, cap, h2, h3, h4, h5.imp id ?_⟩
  rintro ⟨b, c, t, a1, a2, a3, a4⟩
  exact ⟨b, c, t, a1, join_none a2 (fr_none a3), hl _ _ a3, a4⟩

theorem Heap.set_ne {h : Heap} {b b' : Nat} {o : Obj} (e : b' ≠ b) : (h.set b o) b' = h b' := by simp [Heap.set, e]
theorem Heap.set_eq {h : Heap} {b : Nat} {o : Obj} : (h.set b o) b = some o := by simp [Heap.set]

theorem OwnS.set {α : Type} {enc : α → List Value} {sz : Nat} {g h : Heap} {v : Value} {l : List α} (ho : OwnS enc sz g h v l) {b : Nat} {o o' : Obj} (hb : g b = some o) : OwnS enc sz (g.set b o') (h.set b o') v l := by
  obtain ⟨a0, a, cap, h2, h3, h4, h5⟩ := ho
  refine ⟨?_, a, cap, h2, h3, h4, h5.imp id ?_⟩
  · intro x y hx
    by_cases e : x = b
    · subst e; rw [Heap.set_eq] at hx ⊢; exact hx
    · rw [Heap.set_ne e] at hx ⊢; exact a0 x y hx
  · rintro ⟨b', c, t, a1, a2, a3, a4⟩
    have e : b' ≠ b := by intro e; subst e; rw [hb] at a2; cases a2
    exact ⟨b', c, t, a1, by rw [Heap.set_ne e]; exact a2, by rw [Heap.set_ne e]; exact a3, a4⟩

/-- cells are written -/
theorem i_st {N : Num} {Γ : Ctx} {h : Heap} {a : Addr} {cs : List Value} (ho : objAt h a cs) (j n : Nat) {x : Value} (hx : x.cells.size = n) (h1 : x.cells.toList.all one = true) (hn : 0 < n) (hj : j + n ≤ cs.length) {K : Value → Heap → Prop}
    (hK : ∀ o, (∀ g : Heap, g a.block = h a.block → objAt (g.set a.block o) a (cs.take j ++ x.cells.toList ++ cs.drop (j + n))) → (∀ g : Heap, g a.block = h a.block → keeps a cs.length g (g.set a.block o)) → K undef (h.set a.block o)) :
    efW N Γ (.st n) [.pointer (some (a.add j)), x] h K := by
  obtain ⟨hs, c, t, h2, h3, h4⟩ := ho
  have hlen : x.cells.toList.length = n := by simp [hx]
  have hpg := fun i => putL_get c x.cells.toList (a.off + j) i (by omega)
  refine ⟨hx, h.set a.block (.cells (putL c (a.off + j) x.cells.toList) t (0, 0)), ?_, ?_⟩
  · rw [addr_add' a hs]
    cases hl : x.cells.toList with
    | nil => rw [hl] at hlen; simp at hlen; omega
    | cons y ys =>
      have h5 : a.off + j + (y :: ys).length ≤ c.size := by rw [← hl]; omega
      have h6 : (y :: ys).all one = true := by rw [← hl]; exact h1
      simp only [putRow, Option.isSome_none, Bool.false_eq_true, if_false, h2]
      rw [if_pos ⟨h5, h6⟩]
  · refine hK _ (fun g hg => ⟨hs, _, t, Heap.set_eq, ?_, ?_⟩) (fun g hg => ⟨?_, ?_⟩)
    · rw [(hpg 0).1]; simp only [List.length_append, List.length_take, List.length_drop, hlen]; omega
    · intro i hi
      simp only [List.length_append, List.length_take, List.length_drop, hlen] at hi
      rw [(hpg _).2]
      by_cases e : a.off + j ≤ a.off + i ∧ a.off + i < a.off + j + x.cells.toList.length
      · rw [if_pos e, List.append_assoc, List.getElem?_append_right (by simp; omega), List.getElem?_append_left (by simp only [List.length_take]; omega)]
        congr 1; simp only [List.length_take]; omega
      · rw [if_neg e, h4 i (by omega)]
        by_cases e2 : i < j
        · rw [List.append_assoc, List.getElem?_append_left (by simp only [List.length_take]; omega), List.getElem?_take_of_lt e2]
        · rw [List.getElem?_append_right (by simp only [List.length_append, List.length_take, hlen]; omega)]
          rw [List.getElem?_drop]
          congr 1; simp only [List.length_append, List.length_take, hlen]; omega
    · intro b o hb h5; rw [Heap.set_ne hb]; exact h5
    · intro c' t' fz h5
      rw [hg, h2] at h5
      cases h5
      refine ⟨_, Heap.set_eq, (hpg 0).1, fun i hi => ?_⟩
      rw [(hpg i).2, if_neg (by omega)]

/-- a new thing -/
theorem i_newO {N : Num} {Γ : Ctx} {h : Heap} {t : Nat} {x : Value} {K : Value → Heap → Prop}
    (hx : ∀ b h', Heap.le h h' → h b = none → objAt (fr h h') ⟨b, 0, none⟩ x.cells.toList → K (.pointer (some ⟨b, 0, none⟩)) h') : efW N Γ (.new t) [x] h K := by
  intro b hb
  refine hx b _ ((Heap.le.refl h).new hb _) hb ⟨rfl, x.cells, N.tid t, ?_, by simp, fun i hi => by simp⟩
  simp [fr, hb, Heap.set]
end Go.Cw
namespace Go.Cw
open Go

theorem rds_get : ∀ (n : Nat) (b : List UInt8) (j : Nat), j < n → (rds n b).getD j default = rdOf (b.drop (j * 11)) := by
  intro n
  induction n with
  | zero => intro b j hj; omega
  | succ n ih =>
    intro b j hj
    cases j with
    | zero => simp [rds]
    | succ j =>
      have := ih (b.drop 11) j (by omega)
      rw [List.drop_drop, show 11 + j * 11 = (j + 1) * 11 by omega] at this
      simpa [rds] using this
theorem rds_take (n : Nat) (b : List UInt8) (j : Nat) (hj : j < n) : (rds n b).take (j + 1) = (rds n b).take j ++ [rdOf (b.drop (j * 11))] := by
  rw [take_succ_d default (by rw [rds_length]; exact hj), rds_get n b j hj]
theorem u8_165 (b : UInt8) : b = 165 ↔ b.toNat = 165 := by rw [← UInt8.toNat_inj]; rfl
theorem zeroV (h : Heap) : FrV h (.agg #[.int .i64 0, .slice none 0 0, .int .i64 0]) Fr.zero := ⟨_, rfl, Sl.nil⟩
theorem Rd.enc_len (r : Rd) : r.enc.length = 4 := rfl
theorem Rd.enc_one (r : Rd) : r.enc.all one = true := rfl
theorem wrap_u8 (b : UInt8) : IntKind.i64.wrap (b.toNat : Int) = (b.toNat : Int) := by
  have := b.toNat_lt
  exact w64 (by omega) (by omega)
theorem getD_drop {α : Type} (l : List α) (i j : Nat) (d : α) : (l.drop i).getD j d = l.getD (i + j) d := by
  simp [List.getD_eq_getElem?_getD]

theorem OwnS.slf {α : Type} {enc : α → List Value} {sz : Nat} (he : ∀ x, (enc x).length = sz) {h0 h : Heap} {v : Value} {l : List α} (ho : OwnS enc sz h0 h v l) : Sl enc (fr h0 h) v l := by
  obtain ⟨_, a, cap, h1, h2, _, h3⟩ := ho
  refine ⟨a, cap, h1, h2, ?_⟩
  rcases h3 with ⟨_, h4, _⟩ | ⟨b, c, t, h4, h4', h5, h6, h7⟩
  · exact .inl h4
  · refine .inr ⟨_, h4, rfl, c, t, _, by simp only [fr, h4']; exact h5, ?_, ?_⟩
    · rw [flat_len he, h6]
      have := Nat.mul_le_mul_right sz h2
      simpa using this
    · intro i hi
      simpa using h7 i hi

def S72 : Spec := fun args h K => ∃ (k : Nat) (b : List UInt8), args = [.int .i64 k, .string (str b)] ∧ b.length < 2 ^ 62 ∧
  ∀ v h', Heap.le h h' → FrV (fr h h') v ((bodyOf k b).getD Fr.zero) → K (.tuple #[v, .bool (bodyOf k b).isSome]) h'

set_option maxRecDepth 4000 in
theorem F72_ok {N : Num} {Γ : Ctx} [GoodC Γ] : Sat S72 (SF N Γ F72) := by
  rintro _ h K ⟨k, b, rfl, hb, hK⟩
  refine i_fun rfl ?_
  simp only [F72, env0, List.map, List.length, List.replicate, List.cons_append, List.nil_append, Nat.reduceSub, Nat.reduceAdd]
  try simp (disch := first | omega | (simp only [PL]; omega)) only [PS, P1, P2, P3, P4, P5, P6, P7, P8, PA, PB, PC, Nat.reduceAdd, Nat.reduceSub, Nat.reduceMul, Nat.reduceLeDiff, Nat.reduceEqDiff, Nat.succ_ne_self, reduceCtorEq, Int.reduceToNat, Int.cast_ofNat_Int, Int.reduceEq, Int.reduceNe, Int.reduceLT, Int.reduceLE]
  have em : Int.tmod (b.length : Int) 11 = ((b.length % 11 : Nat) : Int) := by rw [Int.tmod_eq_emod_of_nonneg (by omega)]; omega
  rw [em]
  refine i_meet_cond_blk (fun env h' => ∃ f v, Heap.le h h' ∧ FrV (fr h h') v f ∧ bodyOf k b = some f ∧ env = [none, none, some (.agg #[.int .i64 0, .slice none 0 0, .int .i64 0]), none, some v, none, none, none, none, none, none, none, none, none]) ?_ ?_
  · rintro env h' ⟨f, v, hle, ⟨sv, rfl, hs⟩, hbo, rfl⟩
    try simp (disch := first | omega | (simp only [PL]; omega)) only [PS, P1, P2, P3, P4, P5, P6, P7, P8, PA, PB, PC, Nat.reduceAdd, Nat.reduceSub, Nat.reduceMul, Nat.reduceLeDiff, Nat.reduceEqDiff, Nat.succ_ne_self, reduceCtorEq, Int.reduceToNat, Int.cast_ofNat_Int, Int.reduceEq, Int.reduceNe, Int.reduceLT, Int.reduceLE, hs.one]
    rw [hbo] at hK
    exact hK _ h' hle ⟨sv, rfl, hs⟩
  · refine i_cond (fun c1 => ?_) (fun c1 => ?_)
    · have hk : k = 1 := by omega
      have hm : b.length % 11 = 0 := by omega
      have hl : b.length ≤ 44 := by omega
      have hbo : bodyOf k b = if ∀ r ∈ rds (b.length / 11) b, r.ant < 4 then some (⟨1, rds (b.length / 11) b, 0⟩ : Fr) else none := by
        unfold bodyOf; rw [if_pos ⟨hk, hm, hl⟩]
      try simp (disch := first | omega | (simp only [PL]; omega)) only [PS, P1, P2, P3, P4, P5, P6, P7, P8, PA, PB, PC, Nat.reduceAdd, Nat.reduceSub, Nat.reduceMul, Nat.reduceLeDiff, Nat.reduceEqDiff, Nat.succ_ne_self, reduceCtorEq, Int.reduceToNat, Int.cast_ofNat_Int, Int.reduceEq, Int.reduceNe, Int.reduceLT, Int.reduceLE]
      refine i_loop (fun (s : Nat × Value) => [none, some (.string (str (b.drop (s.1 * 11)))), some (.agg #[.int .i64 0, .slice none 0 0, .int .i64 0]), none, some (.agg #[.int .i64 k, s.2, .int .i64 0]), none, none, none, none, none, none, none, none, none])
        (fun s h' => s.1 ≤ b.length / 11 ∧ OwnS Rd.enc 4 h h' s.2 ((rds (b.length / 11) b).take s.1) ∧ ∀ j, j < s.1 → ((rds (b.length / 11) b).getD j default).ant < 4) (fun s => b.length / 11 - s.1) (0, .slice none 0 0)
        (by try simp only [Pe, and_true, true_and, and_self]; rfl) ⟨by dsimp only; omega, OwnS.nil (Heap.le.refl _), by intro j hj; dsimp only at hj; omega⟩ ?_
      rintro ⟨j, v⟩ h' ⟨hj, ho, hg⟩
      dsimp only at hj ho hg
      try simp (disch := first | omega | (simp only [PL]; omega)) only [PS, P1, P2, P3, P4, P5, P6, P7, P8, PA, PB, PC, Nat.reduceAdd, Nat.reduceSub, Nat.reduceMul, Nat.reduceLeDiff, Nat.reduceEqDiff, Nat.succ_ne_self, reduceCtorEq, Int.reduceToNat, Int.cast_ofNat_Int, Int.reduceEq, Int.reduceNe, Int.reduceLT, Int.reduceLE]
      refine i_cond (fun c2 => ?_) (fun c2 => ?_)
      · have hj2 : j < b.length / 11 := by
          have : (b.drop (j * 11)).length ≠ 0 := by intro h0; exact c2 (List.eq_nil_of_length_eq_zero h0)
          simp only [List.length_drop] at this
          omega
        have hdl : (b.drop (j * 11)).length = b.length - j * 11 := List.length_drop
        try simp (disch := first | omega | (simp only [PL]; omega)) only [PS, P1, P2, P3, P4, P5, P6, P7, P8, PA, PB, PC, Nat.reduceAdd, Nat.reduceSub, Nat.reduceMul, Nat.reduceLeDiff, Nat.reduceEqDiff, Nat.succ_ne_self, reduceCtorEq, Int.reduceToNat, Int.cast_ofNat_Int, Int.reduceEq, Int.reduceNe, Int.reduceLT, Int.reduceLE, wrap_u8]
        refine i_cond (fun c3 => ?_) (fun c3 => ?_)
        · try simp (disch := first | omega | (simp only [PL]; omega)) only [PS, P1, P2, P3, P4, P5, P6, P7, P8, PA, PB, PC, Nat.reduceAdd, Nat.reduceSub, Nat.reduceMul, Nat.reduceLeDiff, Nat.reduceEqDiff, Nat.succ_ne_self, reduceCtorEq, Int.reduceToNat, Int.cast_ofNat_Int, Int.reduceEq, Int.reduceNe, Int.reduceLT, Int.reduceLE]
          have : bodyOf k b = none := by
            rw [hbo, if_neg]
            intro h4
            have h5 := h4 _ (getD_mem default (l := rds (b.length / 11) b) (i := j) (by rw [rds_length]; omega))
            rw [rds_get _ _ _ hj2] at h5
            simp only [rdOf] at h5
            omega
          rw [this] at hK
          exact hK _ h' ho.1 (zeroV _)
        · try simp (disch := first | omega | (simp only [PL]; omega)) only [PS, P1, P2, P3, P4, P5, P6, P7, P8, PA, PB, PC, Nat.reduceAdd, Nat.reduceSub, Nat.reduceMul, Nat.reduceLeDiff, Nat.reduceEqDiff, Nat.succ_ne_self, reduceCtorEq, Int.reduceToNat, Int.cast_ofNat_Int, Int.reduceEq, Int.reduceNe, Int.reduceLT, Int.reduceLE, wrap_u8]
          refine i_bslS Rd.enc 4 Rd.enc_len [rdOf (b.drop (j * 11))] (by simp [Rd.enc, rdOf, List.take_drop]) rfl (by simp [maxLen]) fun v1 h1 hle1 ho1 => ?_
          try simp (disch := first | omega | (simp only [PL]; omega)) only [PS, P1, P2, P3, P4, P5, P6, P7, P8, PA, PB, PC, Nat.reduceAdd, Nat.reduceSub, Nat.reduceMul, Nat.reduceLeDiff, Nat.reduceEqDiff, Nat.succ_ne_self, reduceCtorEq, Int.reduceToNat, Int.cast_ofNat_Int, Int.reduceEq, Int.reduceNe, Int.reduceLT, Int.reduceLE]
          refine i_le (le_one hle1) ?_
          try simp (disch := first | omega | (simp only [PL]; omega)) only [PS, P1, P2, P3, P4, P5, P6, P7, P8, PA, PB, PC, Nat.reduceAdd, Nat.reduceSub, Nat.reduceMul, Nat.reduceLeDiff, Nat.reduceEqDiff, Nat.succ_ne_self, reduceCtorEq, Int.reduceToNat, Int.cast_ofNat_Int, Int.reduceEq, Int.reduceNe, Int.reduceLT, Int.reduceLE]
          have hlt := List.length_take_le j (rds (b.length / 11) b)
          refine i_app Rd.enc_len Rd.enc_one (ho.le hle1) (ho1.sl Rd.enc_len) (by simp only [List.length_cons, List.length_nil]; omega) fun v2 h2 ho2 => ?_
          try simp (disch := first | omega | (simp only [PL]; omega)) only [PS, P1, P2, P3, P4, P5, P6, P7, P8, PA, PB, PC, Nat.reduceAdd, Nat.reduceSub, Nat.reduceMul, Nat.reduceLeDiff, Nat.reduceEqDiff, Nat.succ_ne_self, reduceCtorEq, Int.reduceToNat, Int.cast_ofNat_Int, Int.reduceEq, Int.reduceNe, Int.reduceLT, Int.reduceLE, ho2.one]
          refine k_loop (j + 1, v2) (by dsimp only; omega) ?_ ⟨by dsimp only; omega, ?_, ?_⟩
          · try simp only [Pe, and_true, true_and, and_self]
            rw [List.take_of_length_le (by rw [hdl]; omega), List.drop_drop, show j * 11 + 11 = (j + 1) * 11 by omega]
          · dsimp only; rw [rds_take _ _ _ hj2]; exact ho2
          · intro i hi
            dsimp only at hi
            by_cases e : i = j
            · subst e; rw [rds_get _ _ _ hj2]; simp only [rdOf]; omega
            · exact hg i (by omega)
      · try simp (disch := first | omega | (simp only [PL]; omega)) only [PS, P1, P2, P3, P4, P5, P6, P7, P8, PA, PB, PC, Nat.reduceAdd, Nat.reduceSub, Nat.reduceMul, Nat.reduceLeDiff, Nat.reduceEqDiff, Nat.succ_ne_self, reduceCtorEq, Int.reduceToNat, Int.cast_ofNat_Int, Int.reduceEq, Int.reduceNe, Int.reduceLT, Int.reduceLE]
        have hj2 : j = b.length / 11 := by
          have := congrArg List.length (show b.drop (j * 11) = [] by simpa using c2)
          simp only [List.length_drop, List.length_nil] at this
          omega
        subst hj2
        refine k_meet _ ?_ ⟨⟨1, rds (b.length / 11) b, 0⟩, .agg #[.int .i64 1, v, .int .i64 0], ho.1, ?_, ?_, rfl⟩
        rotate_left
        · refine ⟨v, rfl, ?_⟩
          have := ho.slf Rd.enc_len
          rwa [List.take_of_length_le (by rw [rds_length]; omega)] at this
        · rw [hbo, if_pos]
          intro r hr
          obtain ⟨i, hi, rfl⟩ := List.getElem_of_mem hr
          rw [rds_length] at hi
          have := hg i hi
          rwa [List.getD_eq_getElem?_getD, List.getElem?_eq_getElem (by rw [rds_length]; exact hi)] at this
        · try simp only [Pe, and_true, true_and, and_self]; rw [hk]; rfl
    · try simp (disch := first | omega | (simp only [PL]; omega)) only [PS, P1, P2, P3, P4, P5, P6, P7, P8, PA, PB, PC, Nat.reduceAdd, Nat.reduceSub, Nat.reduceMul, Nat.reduceLeDiff, Nat.reduceEqDiff, Nat.succ_ne_self, reduceCtorEq, Int.reduceToNat, Int.cast_ofNat_Int, Int.reduceEq, Int.reduceNe, Int.reduceLT, Int.reduceLE]
      refine i_cond (fun c2 => ?_) (fun c2 => ?_)
      · try simp (disch := first | omega | (simp only [PL]; omega)) only [PS, P1, P2, P3, P4, P5, P6, P7, P8, PA, PB, PC, Nat.reduceAdd, Nat.reduceSub, Nat.reduceMul, Nat.reduceLeDiff, Nat.reduceEqDiff, Nat.succ_ne_self, reduceCtorEq, Int.reduceToNat, Int.cast_ofNat_Int, Int.reduceEq, Int.reduceNe, Int.reduceLT, Int.reduceLE]
        refine k_meet _ ?_ ⟨⟨2, [], 0⟩, .agg #[.int .i64 2, .slice none 0 0, .int .i64 0], Heap.le.refl _, ⟨_, rfl, Sl.nil (a := none) (c := 0)⟩, ?_, rfl⟩
        · try simp only [Pe, and_true, true_and, and_self]; rw [show k = 2 by omega]; rfl
        · unfold bodyOf; rw [if_neg (by omega), if_pos ⟨by omega, c2.2⟩]
      · try simp (disch := first | omega | (simp only [PL]; omega)) only [PS, P1, P2, P3, P4, P5, P6, P7, P8, PA, PB, PC, Nat.reduceAdd, Nat.reduceSub, Nat.reduceMul, Nat.reduceLeDiff, Nat.reduceEqDiff, Nat.succ_ne_self, reduceCtorEq, Int.reduceToNat, Int.cast_ofNat_Int, Int.reduceEq, Int.reduceNe, Int.reduceLT, Int.reduceLE]
        refine i_cond (fun c3 => ?_) (fun c3 => ?_)
        · try simp (disch := first | omega | (simp only [PL]; omega)) only [PS, P1, P2, P3, P4, P5, P6, P7, P8, PA, PB, PC, Nat.reduceAdd, Nat.reduceSub, Nat.reduceMul, Nat.reduceLeDiff, Nat.reduceEqDiff, Nat.succ_ne_self, reduceCtorEq, Int.reduceToNat, Int.cast_ofNat_Int, Int.reduceEq, Int.reduceNe, Int.reduceLT, Int.reduceLE, wrap_u8]
          refine k_meet _ ?_ ⟨⟨3, [], (b.getD 0 0).toNat⟩, .agg #[.int .i64 3, .slice none 0 0, .int .i64 (b.getD 0 0).toNat], Heap.le.refl _, ⟨_, rfl, Sl.nil (a := none) (c := 0)⟩, ?_, rfl⟩
          · try simp only [Pe, and_true, true_and, and_self]; rw [show k = 3 by omega]; rfl
          · unfold bodyOf; rw [if_neg (by omega), if_neg (by rintro ⟨h1, h2⟩; omega), if_pos (by omega)]
        · try simp (disch := first | omega | (simp only [PL]; omega)) only [PS, P1, P2, P3, P4, P5, P6, P7, P8, PA, PB, PC, Nat.reduceAdd, Nat.reduceSub, Nat.reduceMul, Nat.reduceLeDiff, Nat.reduceEqDiff, Nat.succ_ne_self, reduceCtorEq, Int.reduceToNat, Int.cast_ofNat_Int, Int.reduceEq, Int.reduceNe, Int.reduceLT, Int.reduceLE]
          have : bodyOf k b = none := by
            unfold bodyOf; rw [if_neg (by omega), if_neg (by rintro ⟨h1, h2⟩; exact c2 ⟨by omega, h2⟩), if_neg (by omega)]
          rw [this] at hK
          exact hK _ h (Heap.le.refl _) (zeroV _)
end Go.Cw
namespace Go.Cw
open Go

def S57 : Spec := fun args h K => ∃ (s : List UInt8), args = [.string (str s)] ∧ s ≠ [] ∧ s.length < 2 ^ 62 ∧
  ∀ v h', Heap.le h h' → FrV (fr h h') v (((first s).1.map (·.1)).getD Fr.zero) → K (.tuple #[v, .int .i64 (((first s).1.map (·.2)).getD 0 : Nat), .bool (first s).2]) h'

theorem F57_ok {N : Num} {Γ : Ctx} [GoodC Γ] (H56 : Sat S56 (Γ 56)) (H72 : Sat S72 (Γ 72)) : Sat S57 (SF N Γ F57) := by
  rintro _ h K ⟨s, rfl, hne, hb, hK⟩
  have hl : 0 < s.length := List.length_pos_iff.2 hne
  refine i_fun rfl ?_
  simp only [F57, env0, List.map, List.length, List.replicate, List.cons_append, List.nil_append, Nat.reduceSub, Nat.reduceAdd]
  try simp (disch := first | omega | (simp only [PL]; omega)) only [PS, P1, P2, P3, P4, P5, P6, P7, P8, PA, PB, PC, Nat.reduceAdd, Nat.reduceSub, Nat.reduceMul, Nat.reduceLeDiff, Nat.reduceEqDiff, Nat.succ_ne_self, reduceCtorEq, Int.reduceToNat, Int.cast_ofNat_Int, Int.reduceEq, Int.reduceNe, Int.reduceLT, Int.reduceLE]
  refine i_cond (fun c1 => ?_) (fun c1 => ?_)
  · try simp (disch := first | omega | (simp only [PL]; omega)) only [PS, P1, P2, P3, P4, P5, P6, P7, P8, PA, PB, PC, Nat.reduceAdd, Nat.reduceSub, Nat.reduceMul, Nat.reduceLeDiff, Nat.reduceEqDiff, Nat.succ_ne_self, reduceCtorEq, Int.reduceToNat, Int.cast_ofNat_Int, Int.reduceEq, Int.reduceNe, Int.reduceLT, Int.reduceLE]
    have : first s = (none, false) := by unfold first; rw [if_pos (by rw [Ne, u8_165]; omega)]
    rw [this] at hK
    exact hK _ h (Heap.le.refl _) (zeroV _)
  have c1' : s.getD 0 0 = 165 := by rw [u8_165]; omega
  try simp (disch := first | omega | (simp only [PL]; omega)) only [PS, P1, P2, P3, P4, P5, P6, P7, P8, PA, PB, PC, Nat.reduceAdd, Nat.reduceSub, Nat.reduceMul, Nat.reduceLeDiff, Nat.reduceEqDiff, Nat.succ_ne_self, reduceCtorEq, Int.reduceToNat, Int.cast_ofNat_Int, Int.reduceEq, Int.reduceNe, Int.reduceLT, Int.reduceLE]
  refine i_cond (fun c2 => ?_) (fun c2 => ?_)
  · try simp (disch := first | omega | (simp only [PL]; omega)) only [PS, P1, P2, P3, P4, P5, P6, P7, P8, PA, PB, PC, Nat.reduceAdd, Nat.reduceSub, Nat.reduceMul, Nat.reduceLeDiff, Nat.reduceEqDiff, Nat.succ_ne_self, reduceCtorEq, Int.reduceToNat, Int.cast_ofNat_Int, Int.reduceEq, Int.reduceNe, Int.reduceLT, Int.reduceLE]
    have : first s = (none, true) := by unfold first; rw [if_neg (fun e => e c1'), if_pos (by omega)]
    rw [this] at hK
    exact hK _ h (Heap.le.refl _) (zeroV _)
  have hn := (s.getD 1 0).toNat_lt
  have hf : first s = if 48 < 4 + (s.getD 1 0).toNat then (none, false) else if s.length < 4 + (s.getD 1 0).toNat then (none, true)
      else if 255 - bsum (s.take (4 + (s.getD 1 0).toNat - 1)) ≠ (s.getD (4 + (s.getD 1 0).toNat - 1) 0).toNat then (none, false)
      else ((bodyOf (s.getD 2 0).toNat ((s.take (4 + (s.getD 1 0).toNat - 1)).drop 3)).map fun f => (f, 4 + (s.getD 1 0).toNat), false) := by
    unfold first; rw [if_neg (fun e => e c1'), if_neg (by omega)]
  generalize hnn : (s.getD 1 0).toNat = n at *
  have e1 : IntKind.i64.wrap (4 + IntKind.i64.wrap (n : Int)) = ((4 + n : Nat) : Int) := by rw [w64 (n := (n : Int)) (by omega) (by omega), w64 (by omega) (by omega)]; omega
  try simp (disch := first | omega | (simp only [PL]; omega)) only [PS, P1, P2, P3, P4, P5, P6, P7, P8, PA, PB, PC, Nat.reduceAdd, Nat.reduceSub, Nat.reduceMul, Nat.reduceLeDiff, Nat.reduceEqDiff, Nat.succ_ne_self, reduceCtorEq, Int.reduceToNat, Int.cast_ofNat_Int, Int.reduceEq, Int.reduceNe, Int.reduceLT, Int.reduceLE, hnn, e1]
  refine i_cond (fun c3 => ?_) (fun c3 => ?_)
  · try simp (disch := first | omega | (simp only [PL]; omega)) only [PS, P1, P2, P3, P4, P5, P6, P7, P8, PA, PB, PC, Nat.reduceAdd, Nat.reduceSub, Nat.reduceMul, Nat.reduceLeDiff, Nat.reduceEqDiff, Nat.succ_ne_self, reduceCtorEq, Int.reduceToNat, Int.cast_ofNat_Int, Int.reduceEq, Int.reduceNe, Int.reduceLT, Int.reduceLE]
    rw [if_pos (by omega)] at hf
    rw [hf] at hK
    exact hK _ h (Heap.le.refl _) (zeroV _)
  rw [if_neg (by omega)] at hf
  try simp (disch := first | omega | (simp only [PL]; omega)) only [PS, P1, P2, P3, P4, P5, P6, P7, P8, PA, PB, PC, Nat.reduceAdd, Nat.reduceSub, Nat.reduceMul, Nat.reduceLeDiff, Nat.reduceEqDiff, Nat.succ_ne_self, reduceCtorEq, Int.reduceToNat, Int.cast_ofNat_Int, Int.reduceEq, Int.reduceNe, Int.reduceLT, Int.reduceLE]
  refine i_cond (fun c4 => ?_) (fun c4 => ?_)
  · try simp (disch := first | omega | (simp only [PL]; omega)) only [PS, P1, P2, P3, P4, P5, P6, P7, P8, PA, PB, PC, Nat.reduceAdd, Nat.reduceSub, Nat.reduceMul, Nat.reduceLeDiff, Nat.reduceEqDiff, Nat.succ_ne_self, reduceCtorEq, Int.reduceToNat, Int.cast_ofNat_Int, Int.reduceEq, Int.reduceNe, Int.reduceLT, Int.reduceLE]
    rw [if_pos (by omega)] at hf
    rw [hf] at hK
    exact hK _ h (Heap.le.refl _) (zeroV _)
  rw [if_neg (by omega)] at hf
  have e2 : IntKind.i64.wrap (((4 + n : Nat) : Int) - 1) = ((4 + n - 1 : Nat) : Int) := by rw [w64 (by omega) (by omega)]; omega
  try simp (disch := first | omega | (simp only [PL]; omega)) only [PS, P1, P2, P3, P4, P5, P6, P7, P8, PA, PB, PC, Nat.reduceAdd, Nat.reduceSub, Nat.reduceMul, Nat.reduceLeDiff, Nat.reduceEqDiff, Nat.succ_ne_self, reduceCtorEq, Int.reduceToNat, Int.cast_ofNat_Int, Int.reduceEq, Int.reduceNe, Int.reduceLT, Int.reduceLE, e2]
  refine i_call H56 ⟨s.take (4 + n - 1), rfl, by simp only [List.length_take]; omega, ?_⟩
  have hbs := bsum_lt (s.take (4 + n - 1))
  try simp (disch := first | omega | (simp only [PL]; omega)) only [PS, P1, P2, P3, P4, P5, P6, P7, P8, PA, PB, PC, Nat.reduceAdd, Nat.reduceSub, Nat.reduceMul, Nat.reduceLeDiff, Nat.reduceEqDiff, Nat.succ_ne_self, reduceCtorEq, Int.reduceToNat, Int.cast_ofNat_Int, Int.reduceEq, Int.reduceNe, Int.reduceLT, Int.reduceLE]
  refine i_cond (fun c5 => ?_) (fun c5 => ?_)
  · try simp (disch := first | omega | (simp only [PL]; omega)) only [PS, P1, P2, P3, P4, P5, P6, P7, P8, PA, PB, PC, Nat.reduceAdd, Nat.reduceSub, Nat.reduceMul, Nat.reduceLeDiff, Nat.reduceEqDiff, Nat.succ_ne_self, reduceCtorEq, Int.reduceToNat, Int.cast_ofNat_Int, Int.reduceEq, Int.reduceNe, Int.reduceLT, Int.reduceLE]
    rw [if_pos (by omega)] at hf
    rw [hf] at hK
    exact hK _ h (Heap.le.refl _) (zeroV _)
  rw [if_neg (by omega)] at hf
  try simp (disch := first | omega | (simp only [PL]; omega)) only [PS, P1, P2, P3, P4, P5, P6, P7, P8, PA, PB, PC, Nat.reduceAdd, Nat.reduceSub, Nat.reduceMul, Nat.reduceLeDiff, Nat.reduceEqDiff, Nat.succ_ne_self, reduceCtorEq, Int.reduceToNat, Int.cast_ofNat_Int, Int.reduceEq, Int.reduceNe, Int.reduceLT, Int.reduceLE, e2, wrap_u8]
  refine i_call H72 ⟨(s.getD 2 0).toNat, _, rfl, by simp only [List.length_drop, List.length_take]; omega, ?_⟩
  intro v h' hle hv
  have hK2 := hK
  rw [hf] at hK
  obtain ⟨sv, rfl, hsl⟩ := hv
  try simp (disch := first | omega | (simp only [PL]; omega)) only [PS, P1, P2, P3, P4, P5, P6, P7, P8, PA, PB, PC, Nat.reduceAdd, Nat.reduceSub, Nat.reduceMul, Nat.reduceLeDiff, Nat.reduceEqDiff, Nat.succ_ne_self, reduceCtorEq, Int.reduceToNat, Int.cast_ofNat_Int, Int.reduceEq, Int.reduceNe, Int.reduceLT, Int.reduceLE, hsl.one]
  cases hbo : bodyOf (s.getD 2 0).toNat ((s.take (4 + n - 1)).drop 3) with
  | none =>
    rw [hbo] at hK hsl
    try simp (disch := first | omega | (simp only [PL]; omega)) only [PS, P1, P2, P3, P4, P5, P6, P7, P8, PA, PB, PC, Nat.reduceAdd, Nat.reduceSub, Nat.reduceMul, Nat.reduceLeDiff, Nat.reduceEqDiff, Nat.succ_ne_self, reduceCtorEq, Int.reduceToNat, Int.cast_ofNat_Int, Int.reduceEq, Int.reduceNe, Int.reduceLT, Int.reduceLE, hsl.one]
    exact hK _ h' hle ⟨sv, rfl, hsl⟩
  | some f =>
    rw [hbo] at hK hsl
    try simp (disch := first | omega | (simp only [PL]; omega)) only [PS, P1, P2, P3, P4, P5, P6, P7, P8, PA, PB, PC, Nat.reduceAdd, Nat.reduceSub, Nat.reduceMul, Nat.reduceLeDiff, Nat.reduceEqDiff, Nat.succ_ne_self, reduceCtorEq, Int.reduceToNat, Int.cast_ofNat_Int, Int.reduceEq, Int.reduceNe, Int.reduceLT, Int.reduceLE, hsl.one]
    exact hK _ h' hle ⟨sv, rfl, hsl⟩

def S59 : Spec := fun args h K => ∃ (s : List UInt8), args = [.string (str s)] ∧ s ≠ [] ∧ s.length < 2 ^ 62 ∧ K (.bool (decide (begins s))) h
theorem F59_ok {N : Num} {Γ : Ctx} [GoodC Γ] : Sat S59 (SF N Γ F59) := by
  rintro _ h K ⟨s, rfl, hne, hb, hK⟩
  have hl : 0 < s.length := List.length_pos_iff.2 hne
  have hn := (s.getD 1 0).toNat_lt
  refine i_fun rfl ?_
  simp only [F59, env0, List.map, List.length, List.replicate, List.cons_append, List.nil_append, Nat.reduceSub, Nat.reduceAdd]
  try simp (disch := first | omega | (simp only [PL]; omega)) only [PS, P1, P2, P3, P4, P5, P6, P7, P8, PA, PB, PC, Nat.reduceAdd, Nat.reduceSub, Nat.reduceMul, Nat.reduceLeDiff, Nat.reduceEqDiff, Nat.succ_ne_self, reduceCtorEq, Int.reduceToNat, Int.cast_ofNat_Int, Int.reduceEq, Int.reduceNe, Int.reduceLT, Int.reduceLE]
  refine i_cond (fun c1 => ?_) (fun c1 => ?_)
  · try simp (disch := first | omega | (simp only [PL]; omega)) only [PS, P1, P2, P3, P4, P5, P6, P7, P8, PA, PB, PC, Nat.reduceAdd, Nat.reduceSub, Nat.reduceMul, Nat.reduceLeDiff, Nat.reduceEqDiff, Nat.succ_ne_self, reduceCtorEq, Int.reduceToNat, Int.cast_ofNat_Int, Int.reduceEq, Int.reduceNe, Int.reduceLT, Int.reduceLE]
    have : begins s ↔ ((s.getD 0 0).toNat : Int) = 165 := by unfold begins; rw [if_pos (by omega), u8_165]; omega
    rw [decide_eq_decide.2 this] at hK; exact hK
  · try simp (disch := first | omega | (simp only [PL]; omega)) only [PS, P1, P2, P3, P4, P5, P6, P7, P8, PA, PB, PC, Nat.reduceAdd, Nat.reduceSub, Nat.reduceMul, Nat.reduceLeDiff, Nat.reduceEqDiff, Nat.succ_ne_self, reduceCtorEq, Int.reduceToNat, Int.cast_ofNat_Int, Int.reduceEq, Int.reduceNe, Int.reduceLT, Int.reduceLE]
    generalize hnn : (s.getD 1 0).toNat = n at *
    have e1 : IntKind.i64.wrap (4 + IntKind.i64.wrap (n : Int)) = ((4 + n : Nat) : Int) := by rw [w64 (n := (n : Int)) (by omega) (by omega), w64 (by omega) (by omega)]; omega
    try simp (disch := first | omega | (simp only [PL]; omega)) only [PS, P1, P2, P3, P4, P5, P6, P7, P8, PA, PB, PC, Nat.reduceAdd, Nat.reduceSub, Nat.reduceMul, Nat.reduceLeDiff, Nat.reduceEqDiff, Nat.succ_ne_self, reduceCtorEq, Int.reduceToNat, Int.cast_ofNat_Int, Int.reduceEq, Int.reduceNe, Int.reduceLT, Int.reduceLE, hnn, e1]
    have : begins s ↔ (((s.getD 0 0).toNat : Int) = 165 ∧ (n : Int) ≤ 44) ∧ (s.length : Int) < ((4 + n : Nat) : Int) := by unfold begins; rw [if_neg (by omega), u8_165, hnn]; omega
    rw [decide_eq_decide.2 this] at hK; exact hK

def S58 : Spec := fun args h K => ∃ (s : List UInt8), args = [.string (str s)] ∧ s.length < 2 ^ 62 ∧
  ∀ v h', Heap.le h h' → FrV (fr h h') v (((fAt s).map (·.1)).getD Fr.zero) → K (.tuple #[v, .int .i64 (((fAt s).map (·.2)).getD 0 : Nat)]) h'

theorem F58_ok {N : Num} {Γ : Ctx} [GoodC Γ] (H17 : Sat S17 (Γ 17)) (H22 : Sat S22 (Γ 22)) : Sat S58 (SF N Γ F58) := by
  rintro _ h K ⟨s, rfl, hb, hK⟩
  refine i_fun rfl ?_
  simp only [F58, env0, List.map, List.length, List.replicate, List.cons_append, List.nil_append, Nat.reduceSub, Nat.reduceAdd]
  by_cases h4 : (s.length : Int) < 4
  · have hf : fAt s = none := by unfold fAt; rw [if_pos (.inl (by omega))]
    try simp (disch := first | omega | (simp only [PL]; omega)) only [PS, P1, P2, P3, P4, P5, P6, P7, P8, PA, PB, PC, Nat.reduceAdd, Nat.reduceSub, Nat.reduceMul, Nat.reduceLeDiff, Nat.reduceEqDiff, Nat.succ_ne_self, reduceCtorEq, Int.reduceToNat, Int.cast_ofNat_Int, Int.reduceEq, Int.reduceNe, Int.reduceLT, Int.reduceLE, h4]
    rw [hf] at hK
    exact hK _ h (Heap.le.refl _) (zeroV _)
  have hn := (s.getD 1 0).toNat_lt
  try simp (disch := first | omega | (simp only [PL]; omega)) only [PS, P1, P2, P3, P4, P5, P6, P7, P8, PA, PB, PC, Nat.reduceAdd, Nat.reduceSub, Nat.reduceMul, Nat.reduceLeDiff, Nat.reduceEqDiff, Nat.succ_ne_self, reduceCtorEq, Int.reduceToNat, Int.cast_ofNat_Int, Int.reduceEq, Int.reduceNe, Int.reduceLT, Int.reduceLE, h4]
  generalize hnn : (s.getD 1 0).toNat = n at *
  have e0 : IntKind.i64.wrap (n : Int) = (n : Int) := w64 (by omega) (by omega)
  have e1 : IntKind.i64.wrap (4 + (n : Int)) = ((4 + n : Nat) : Int) := by rw [w64 (by omega) (by omega)]; omega
  have e3 : IntKind.i64.wrap (3 + (n : Int)) = ((3 + n : Nat) : Int) := by rw [w64 (by omega) (by omega)]; omega
  try simp (disch := first | omega | (simp only [PL]; omega)) only [PS, P1, P2, P3, P4, P5, P6, P7, P8, PA, PB, PC, Nat.reduceAdd, Nat.reduceSub, Nat.reduceMul, Nat.reduceLeDiff, Nat.reduceEqDiff, Nat.succ_ne_self, reduceCtorEq, Int.reduceToNat, Int.cast_ofNat_Int, Int.reduceEq, Int.reduceNe, Int.reduceLT, Int.reduceLE, hnn, e0, e1, h4]

  refine i_cond (fun c1 => ?_) (fun c1 => ?_)
  · try simp (disch := first | omega | (simp only [PL]; omega)) only [PS, P1, P2, P3, P4, P5, P6, P7, P8, PA, PB, PC, Nat.reduceAdd, Nat.reduceSub, Nat.reduceMul, Nat.reduceLeDiff, Nat.reduceEqDiff, Nat.succ_ne_self, reduceCtorEq, Int.reduceToNat, Int.cast_ofNat_Int, Int.reduceEq, Int.reduceNe, Int.reduceLT, Int.reduceLE]
    have hf : fAt s = none := by
      unfold fAt; rw [if_pos]
      simp only [u8_165, ne_eq, hnn]; omega
    rw [hf] at hK
    exact hK _ h (Heap.le.refl _) (zeroV _)
  have hn44 : n ≤ 44 := by omega
  have hsl : 4 + n ≤ s.length := by omega
  have hf : fAt s = if (decode (s.getD 2 0).toNat ((s.drop 3).take n)).fault ≠ 0 ∨ (decode (s.getD 2 0).toNat ((s.drop 3).take n)).bytes ≠ s.take (4 + n) then none else some (decode (s.getD 2 0).toNat ((s.drop 3).take n), 4 + n) := by
    unfold fAt; rw [if_neg (by simp only [u8_165, ne_eq, hnn]; omega)]; simp only [hnn]
  have hBl : ((s.drop 3).take n).length = n := by simp only [List.length_take, List.length_drop]; omega
  have hBe : (s.take (3 + n)).drop 3 = (s.drop 3).take n := by rw [List.drop_take]; congr 1; omega
  try simp (disch := first | omega | (simp only [PL]; omega)) only [PS, P1, P2, P3, P4, P5, P6, P7, P8, PA, PB, PC, Nat.reduceAdd, Nat.reduceSub, Nat.reduceMul, Nat.reduceLeDiff, Nat.reduceEqDiff, Nat.succ_ne_self, reduceCtorEq, Int.reduceToNat, Int.cast_ofNat_Int, Int.reduceEq, Int.reduceNe, Int.reduceLT, Int.reduceLE, hnn, e0, e3, wrap_u8]
  rw [hBe]
  generalize hB : (s.drop 3).take n = B at *
  generalize hty : s.getD 2 0 = ty at *
  -- the reads
  refine i_meet_cond (fun env h' => ∃ sv, OwnS Rd.enc 4 h h' sv (decode ty.toNat B).reads ∧ env = [some (.string (str s)), some (.agg #[.int .i64 0, .slice none 0 0, .int .i64 0]), none, some (.int .i64 n), some (.agg #[.int .i64 ty.toNat, sv, .int .i64 0]), some (.string (str B)), none, none, none, none, none, none, none, none, none, none, none, none, none, none, none]) ?_ ?_
  · rintro env h' ⟨sv, ho, rfl⟩
    have b0 : ty.toNat = 3 → n = 1 → (decode ty.toNat B).warm = (B.getD 0 0).toNat := by intro h1 h2; simp only [decode]; rw [if_pos ⟨h1, by omega⟩]
    have b1 : ¬ (ty.toNat = 3 ∧ n = 1) → (decode ty.toNat B).warm = 0 := by intro h1; simp only [decode]; rw [if_neg (by omega)]
    try simp (disch := first | omega | (simp only [PL]; omega)) only [PS, P1, P2, P3, P4, P5, P6, P7, P8, PA, PB, PC, Nat.reduceAdd, Nat.reduceSub, Nat.reduceMul, Nat.reduceLeDiff, Nat.reduceEqDiff, Nat.succ_ne_self, reduceCtorEq, Int.reduceToNat, Int.cast_ofNat_Int, Int.reduceEq, Int.reduceNe, Int.reduceLT, Int.reduceLE]
    refine i_meet_cond (fun env h'' => h'' = h' ∧ env = [some (.string (str s)), some (.agg #[.int .i64 0, .slice none 0 0, .int .i64 0]), none, some (.int .i64 n), some (.agg #[.int .i64 ty.toNat, sv, .int .i64 (decode ty.toNat B).warm]), some (.string (str B)), none, none, none, none, none, none, none, none, none, none, none, none, none, none, none]) ?_ ?_
    · rintro env h2 ⟨e2, rfl⟩
      rw [e2]; clear e2
      have hvf : FrV (fr h h') (.agg #[.int .i64 ty.toNat, sv, .int .i64 (decode ty.toNat B).warm]) (decode ty.toNat B) := ⟨sv, rfl, ho.slf Rd.enc_len⟩
      have hv2 : FrV h' (.agg #[.int .i64 ty.toNat, sv, .int .i64 (decode ty.toNat B).warm]) (decode ty.toNat B) := hvf.le (fr_le _ _)
      try simp (disch := first | omega | (simp only [PL]; omega)) only [PS, P1, P2, P3, P4, P5, P6, P7, P8, PA, PB, PC, Nat.reduceAdd, Nat.reduceSub, Nat.reduceMul, Nat.reduceLeDiff, Nat.reduceEqDiff, Nat.succ_ne_self, reduceCtorEq, Int.reduceToNat, Int.cast_ofNat_Int, Int.reduceEq, Int.reduceNe, Int.reduceLT, Int.reduceLE]
      refine i_call H17 ⟨_, _, rfl, hv2, ?_⟩
      try simp (disch := first | omega | (simp only [PL]; omega)) only [PS, P1, P2, P3, P4, P5, P6, P7, P8, PA, PB, PC, Nat.reduceAdd, Nat.reduceSub, Nat.reduceMul, Nat.reduceLeDiff, Nat.reduceEqDiff, Nat.succ_ne_self, reduceCtorEq, Int.reduceToNat, Int.cast_ofNat_Int, Int.reduceEq, Int.reduceNe, Int.reduceLT, Int.reduceLE]
      by_cases hft : (decode ty.toNat B).fault = 0
      · have hn0 : ¬ (0 : Int) < (decode ty.toNat B).fault := by omega
        try simp (disch := first | omega | (simp only [PL]; omega)) only [PS, P1, P2, P3, P4, P5, P6, P7, P8, PA, PB, PC, Nat.reduceAdd, Nat.reduceSub, Nat.reduceMul, Nat.reduceLeDiff, Nat.reduceEqDiff, Nat.succ_ne_self, reduceCtorEq, Int.reduceToNat, Int.cast_ofNat_Int, Int.reduceEq, Int.reduceNe, Int.reduceLT, Int.reduceLE, hn0, e1]
        refine i_call H22 ⟨_, _, rfl, hv2, hft, fun h'' hle2 => ?_⟩
        try simp (disch := first | omega | (simp only [PL]; omega)) only [PS, P1, P2, P3, P4, P5, P6, P7, P8, PA, PB, PC, Nat.reduceAdd, Nat.reduceSub, Nat.reduceMul, Nat.reduceLeDiff, Nat.reduceEqDiff, Nat.succ_ne_self, reduceCtorEq, Int.reduceToNat, Int.cast_ofNat_Int, Int.reduceEq, Int.reduceNe, Int.reduceLT, Int.reduceLE, hn0, e1]
        refine i_cond (fun c2 => ?_) (fun c2 => ?_)
        · try simp (disch := first | omega | (simp only [PL]; omega)) only [PS, P1, P2, P3, P4, P5, P6, P7, P8, PA, PB, PC, Nat.reduceAdd, Nat.reduceSub, Nat.reduceMul, Nat.reduceLeDiff, Nat.reduceEqDiff, Nat.succ_ne_self, reduceCtorEq, Int.reduceToNat, Int.cast_ofNat_Int, Int.reduceEq, Int.reduceNe, Int.reduceLT, Int.reduceLE]
          rw [if_pos (.inr c2)] at hf
          rw [hf] at hK
          exact hK _ h'' (ho.1.trans hle2) (zeroV _)
        · try simp (disch := first | omega | (simp only [PL]; omega)) only [PS, P1, P2, P3, P4, P5, P6, P7, P8, PA, PB, PC, Nat.reduceAdd, Nat.reduceSub, Nat.reduceMul, Nat.reduceLeDiff, Nat.reduceEqDiff, Nat.succ_ne_self, reduceCtorEq, Int.reduceToNat, Int.cast_ofNat_Int, Int.reduceEq, Int.reduceNe, Int.reduceLT, Int.reduceLE, ho.one, e1]
          rw [if_neg (by rintro (h1 | h1); exact h1 hft; exact c2 h1)] at hf
          rw [hf] at hK
          exact hK _ h'' (ho.1.trans hle2) (hvf.le (fr_mono hle2))
      · try simp (disch := first | omega | (simp only [PL]; omega)) only [PS, P1, P2, P3, P4, P5, P6, P7, P8, PA, PB, PC, Nat.reduceAdd, Nat.reduceSub, Nat.reduceMul, Nat.reduceLeDiff, Nat.reduceEqDiff, Nat.succ_ne_self, reduceCtorEq, Int.reduceToNat, Int.cast_ofNat_Int, Int.reduceEq, Int.reduceNe, Int.reduceLT, Int.reduceLE, show (0 : Int) < (decode ty.toNat B).fault by omega]
        rw [if_pos (.inl hft)] at hf
        rw [hf] at hK
        exact hK _ h' ho.1 (zeroV _)
    · refine i_cond (fun c2 => ?_) (fun c2 => ?_)
      · try simp (disch := first | omega | (simp only [PL]; omega)) only [PS, P1, P2, P3, P4, P5, P6, P7, P8, PA, PB, PC, Nat.reduceAdd, Nat.reduceSub, Nat.reduceMul, Nat.reduceLeDiff, Nat.reduceEqDiff, Nat.succ_ne_self, reduceCtorEq, Int.reduceToNat, Int.cast_ofNat_Int, Int.reduceEq, Int.reduceNe, Int.reduceLT, Int.reduceLE, wrap_u8]
        refine k_meet _ ?_ ⟨rfl, rfl⟩
        try simp only [Pe, and_true, true_and, and_self]; rw [b0 (by omega) (by omega)]
      · try simp (disch := first | omega | (simp only [PL]; omega)) only [PS, P1, P2, P3, P4, P5, P6, P7, P8, PA, PB, PC, Nat.reduceAdd, Nat.reduceSub, Nat.reduceMul, Nat.reduceLeDiff, Nat.reduceEqDiff, Nat.succ_ne_self, reduceCtorEq, Int.reduceToNat, Int.cast_ofNat_Int, Int.reduceEq, Int.reduceNe, Int.reduceLT, Int.reduceLE]
        refine k_meet _ ?_ ⟨rfl, rfl⟩
        try simp only [Pe, and_true, true_and, and_self]; rw [b1 (by omega)]
  · refine i_cond (fun c2 => ?_) (fun c2 => ?_)
    · have ht : ty.toNat = 1 := by omega
      have hr : (decode ty.toNat B).reads = rds (n / 11) B := by simp only [decode]; rw [if_pos ht, hBl]
      try simp (disch := first | omega | (simp only [PL]; omega)) only [PS, P1, P2, P3, P4, P5, P6, P7, P8, PA, PB, PC, Nat.reduceAdd, Nat.reduceSub, Nat.reduceMul, Nat.reduceLeDiff, Nat.reduceEqDiff, Nat.succ_ne_self, reduceCtorEq, Int.reduceToNat, Int.cast_ofNat_Int, Int.reduceEq, Int.reduceNe, Int.reduceLT, Int.reduceLE]
      refine i_loop (fun (p : Nat × Value) => [some (.string (str s)), some (.agg #[.int .i64 0, .slice none 0 0, .int .i64 0]), none, some (.int .i64 n), some (.agg #[.int .i64 ty.toNat, p.2, .int .i64 0]), some (.string (str B)), some (.int .i64 (p.1 * 11 : Nat)), none, none, none, none, none, none, none, none, none, none, none, none, none, none])
        (fun p h' => p.1 ≤ n / 11 ∧ OwnS Rd.enc 4 h h' p.2 ((rds (n / 11) B).take p.1)) (fun p => n / 11 - p.1) (0, .slice none 0 0)
        (by try simp only [Pe, and_true, true_and, and_self]; rfl) ⟨by dsimp only; omega, OwnS.nil (Heap.le.refl _)⟩ ?_
      rintro ⟨j, v⟩ h' ⟨hj, ho⟩
      dsimp only at hj ho
      try simp (disch := first | omega | (simp only [PL]; omega)) only [PS, P1, P2, P3, P4, P5, P6, P7, P8, PA, PB, PC, Nat.reduceAdd, Nat.reduceSub, Nat.reduceMul, Nat.reduceLeDiff, Nat.reduceEqDiff, Nat.succ_ne_self, reduceCtorEq, Int.reduceToNat, Int.cast_ofNat_Int, Int.reduceEq, Int.reduceNe, Int.reduceLT, Int.reduceLE]
      refine i_cond (fun c3 => ?_) (fun c3 => ?_)
      · have hj2 : j < n / 11 := by omega
        try simp (disch := first | omega | (simp only [PL]; omega)) only [PS, P1, P2, P3, P4, P5, P6, P7, P8, PA, PB, PC, Nat.reduceAdd, Nat.reduceSub, Nat.reduceMul, Nat.reduceLeDiff, Nat.reduceEqDiff, Nat.succ_ne_self, reduceCtorEq, Int.reduceToNat, Int.cast_ofNat_Int, Int.reduceEq, Int.reduceNe, Int.reduceLT, Int.reduceLE, wrap_u8]
        have e5 : (B.take (j * 11 + 11)).drop (j * 11 + 3) = ((B.drop (j * 11)).drop 3).take 8 := by
          rw [List.drop_take, List.drop_drop]; congr 1; omega
        refine i_bslS Rd.enc 4 Rd.enc_len [rdOf (B.drop (j * 11))] (by simp [Rd.enc, rdOf, e5]) rfl (by simp [maxLen]) fun v1 h1 hle1 ho1 => ?_
        try simp (disch := first | omega | (simp only [PL]; omega)) only [PS, P1, P2, P3, P4, P5, P6, P7, P8, PA, PB, PC, Nat.reduceAdd, Nat.reduceSub, Nat.reduceMul, Nat.reduceLeDiff, Nat.reduceEqDiff, Nat.succ_ne_self, reduceCtorEq, Int.reduceToNat, Int.cast_ofNat_Int, Int.reduceEq, Int.reduceNe, Int.reduceLT, Int.reduceLE]
        refine i_le (le_one hle1) ?_
        try simp (disch := first | omega | (simp only [PL]; omega)) only [PS, P1, P2, P3, P4, P5, P6, P7, P8, PA, PB, PC, Nat.reduceAdd, Nat.reduceSub, Nat.reduceMul, Nat.reduceLeDiff, Nat.reduceEqDiff, Nat.succ_ne_self, reduceCtorEq, Int.reduceToNat, Int.cast_ofNat_Int, Int.reduceEq, Int.reduceNe, Int.reduceLT, Int.reduceLE]
        have hlt := List.length_take_le j (rds (n / 11) B)
        refine i_app Rd.enc_len Rd.enc_one (ho.le hle1) (ho1.sl Rd.enc_len) (by simp only [List.length_cons, List.length_nil]; omega) fun v2 h2 ho2 => ?_
        try simp (disch := first | omega | (simp only [PL]; omega)) only [PS, P1, P2, P3, P4, P5, P6, P7, P8, PA, PB, PC, Nat.reduceAdd, Nat.reduceSub, Nat.reduceMul, Nat.reduceLeDiff, Nat.reduceEqDiff, Nat.succ_ne_self, reduceCtorEq, Int.reduceToNat, Int.cast_ofNat_Int, Int.reduceEq, Int.reduceNe, Int.reduceLT, Int.reduceLE, ho2.one]
        refine k_loop (j + 1, v2) (by dsimp only; omega) ?_ ⟨by dsimp only; omega, ?_⟩
        · try simp only [Pe, and_true, true_and, and_self]; congr 1; omega
        · dsimp only; rw [rds_take _ _ _ hj2]; exact ho2
      · try simp (disch := first | omega | (simp only [PL]; omega)) only [PS, P1, P2, P3, P4, P5, P6, P7, P8, PA, PB, PC, Nat.reduceAdd, Nat.reduceSub, Nat.reduceMul, Nat.reduceLeDiff, Nat.reduceEqDiff, Nat.succ_ne_self, reduceCtorEq, Int.reduceToNat, Int.cast_ofNat_Int, Int.reduceEq, Int.reduceNe, Int.reduceLT, Int.reduceLE]
        have hj2 : j = n / 11 := by omega
        subst hj2
        rw [List.take_of_length_le (by rw [rds_length]; omega)] at ho
        refine k_meet _ ?_ ⟨v, by rw [hr]; exact ho, rfl⟩
        try simp only [Pe, and_true, true_and, and_self]
    · have hr : (decode ty.toNat B).reads = [] := by simp only [decode]; rw [if_neg (by omega)]
      try simp (disch := first | omega | (simp only [PL]; omega)) only [PS, P1, P2, P3, P4, P5, P6, P7, P8, PA, PB, PC, Nat.reduceAdd, Nat.reduceSub, Nat.reduceMul, Nat.reduceLeDiff, Nat.reduceEqDiff, Nat.succ_ne_self, reduceCtorEq, Int.reduceToNat, Int.cast_ofNat_Int, Int.reduceEq, Int.reduceNe, Int.reduceLT, Int.reduceLE]
      refine k_meet _ ?_ ⟨.slice none 0 0, by rw [hr]; exact OwnS.nil (Heap.le.refl _), rfl⟩
      try simp only [Pe, and_true, true_and, and_self]
end Go.Cw
namespace Go.Cw
open Go

def feedN : Nat → List UInt8 → List Fr × List UInt8 × Nat
  | 0, s => ([], s, 0)
  | n + 1, s =>
    if s = [] then ([], [], 0) else
    match fAt s with
    | some (f, k) => (f :: (feedN n (s.drop k)).1, (feedN n (s.drop k)).2)
    | none => if begins s then ([], s, 0) else ((feedN n (s.drop 1)).1, (feedN n (s.drop 1)).2.1, (feedN n (s.drop 1)).2.2 + 1)
def feed (s : List UInt8) : List Fr × List UInt8 × Nat := feedN s.length s
theorem fAt_pos {s : List UInt8} {f : Fr} {k : Nat} (h : fAt s = some (f, k)) : 4 ≤ k ∧ k ≤ s.length ∧ k ≤ 48 ∧ f.fault = 0 ∧ f.bytes = s.take k := by
  unfold fAt at h
  split at h
  · cases h
  · rename_i h1
    simp only at h
    split at h
    · cases h
    · rename_i h2
      simp only [Option.some.injEq, Prod.mk.injEq] at h
      obtain ⟨rfl, rfl⟩ := h
      refine ⟨by omega, by omega, by omega, ?_, ?_⟩
      · exact Classical.byContradiction fun e => h2 (.inl e)
      · exact Classical.byContradiction fun e => h2 (.inr e)
theorem feedN_eq : ∀ (n m : Nat) (s : List UInt8), s.length ≤ n → s.length ≤ m → feedN n s = feedN m s := by
  intro n
  induction n with
  | zero =>
    intro m s h1 h2
    have : s = [] := List.eq_nil_of_length_eq_zero (by omega)
    subst this
    cases m <;> simp [feedN]
  | succ n ih =>
    intro m s h1 h2
    by_cases hs : s = []
    · subst hs; cases m <;> simp [feedN]
    · have hl : 0 < s.length := List.length_pos_iff.2 hs
      cases m with
      | zero => omega
      | succ m =>
        simp only [feedN, hs, if_false]
        cases hf : fAt s with
        | none =>
          simp only
          rw [ih m (s.drop 1) (by rw [List.length_drop]; omega) (by rw [List.length_drop]; omega)]
        | some p =>
          obtain ⟨f, k⟩ := p
          have := fAt_pos hf
          simp only
          rw [ih m (s.drop k) (by rw [List.length_drop]; omega) (by rw [List.length_drop]; omega)]
theorem feed_nil : feed [] = ([], [], 0) := rfl
theorem feed_cons {s : List UInt8} (hs : s ≠ []) : feed s = match fAt s with
    | some (f, k) => (f :: (feed (s.drop k)).1, (feed (s.drop k)).2)
    | none => if begins s then ([], s, 0) else ((feed (s.drop 1)).1, (feed (s.drop 1)).2.1, (feed (s.drop 1)).2.2 + 1) := by
  have hl : 0 < s.length := List.length_pos_iff.2 hs
  obtain ⟨n, hn⟩ : ∃ n, s.length = n + 1 := ⟨s.length - 1, by omega⟩
  unfold feed
  conv => lhs; rw [hn]
  simp only [feedN, hs, if_false]
  cases hf : fAt s with
  | none => simp only; rw [feedN_eq n (s.drop 1).length (s.drop 1) (by rw [List.length_drop]; omega) (Nat.le_refl _)]
  | some p =>
    obtain ⟨f, k⟩ := p
    have := fAt_pos hf
    simp only; rw [feedN_eq n (s.drop k).length (s.drop k) (by rw [List.length_drop]; omega) (Nat.le_refl _)]

def lineC (rest : List UInt8) (lost : Nat) : List Value := [.string (str rest), .int .i64 lost]
/-- a reader's line, by both -/
def LineAt (h : Heap) (a : Addr) (rest : List UInt8) (lost : Nat) : Prop := objAt h a (lineC rest lost)

theorem LineAt.rules {h : Heap} {a : Addr} {rest : List UInt8} {lost : Nat} (ho : LineAt h a rest lost) : h.cell a = some (.string (str rest)) ∧ h.cell (a.add 0) = some (.string (str rest)) ∧ h.cell (a.add 1) = some (.int .i64 lost) ∧ h.row a 2 = some #[.string (str rest), .int .i64 lost] := by
  obtain ⟨h1, h2, h3⟩ := objAt.rules ho
  exact ⟨h2 (by simp [lineC]), h2 (by simp [lineC]), h1 1 (by simp [lineC]), h3⟩

def S26 : Spec := fun args h K => ∃ a rest lost, args = [.pointer (some a)] ∧ LineAt h a rest lost ∧ K (.int .i64 lost) h
def S27 : Spec := fun args h K => ∃ a rest lost, args = [.pointer (some a)] ∧ LineAt h a rest lost ∧ K (.int .i64 rest.length) h
theorem F26_ok {N : Num} {Γ : Ctx} [GoodC Γ] : Sat S26 (SF N Γ F26) := by
  rintro _ h K ⟨a, rest, lost, rfl, ho, hK⟩
  refine i_fun rfl ?_
  simp only [F26, env0, List.map, List.length, List.replicate, List.cons_append, List.nil_append, Nat.reduceSub, Nat.reduceAdd]
  have R := ho.rules
  try simp (disch := first | omega | (simp only [PL]; omega)) only [PS, P1, P2, P3, P4, P5, P6, P7, P8, PA, PB, PC, Nat.reduceAdd, Nat.reduceSub, Nat.reduceMul, Nat.reduceLeDiff, Nat.reduceEqDiff, Nat.succ_ne_self, reduceCtorEq, Int.reduceToNat, Int.cast_ofNat_Int, Int.reduceEq, Int.reduceNe, Int.reduceLT, Int.reduceLE, R]
  exact hK
theorem F27_ok {N : Num} {Γ : Ctx} [GoodC Γ] : Sat S27 (SF N Γ F27) := by
  rintro _ h K ⟨a, rest, lost, rfl, ho, hK⟩
  refine i_fun rfl ?_
  simp only [F27, env0, List.map, List.length, List.replicate, List.cons_append, List.nil_append, Nat.reduceSub, Nat.reduceAdd]
  have R := ho.rules
  try simp (disch := first | omega | (simp only [PL]; omega)) only [PS, P1, P2, P3, P4, P5, P6, P7, P8, PA, PB, PC, Nat.reduceAdd, Nat.reduceSub, Nat.reduceMul, Nat.reduceLeDiff, Nat.reduceEqDiff, Nat.succ_ne_self, reduceCtorEq, Int.reduceToNat, Int.cast_ofNat_Int, Int.reduceEq, Int.reduceNe, Int.reduceLT, Int.reduceLE, R]
  exact hK
theorem addr0 (a : Addr) : a.add 0 = a := rfl

def S23 : Spec := fun args h K => ∃ a rest lost, args = [.pointer (some a)] ∧ LineAt h a rest lost ∧ ∀ b h', Heap.le h h' → h b = none → LineAt (fr h h') ⟨b, 0, none⟩ rest lost → K (.pointer (some ⟨b, 0, none⟩)) h'
theorem F23_ok {N : Num} {Γ : Ctx} [GoodC Γ] : Sat S23 (SF N Γ F23) := by
  rintro _ h K ⟨a, rest, lost, rfl, ho, hK⟩
  refine i_fun rfl ?_
  simp only [F23, env0, List.map, List.length, List.replicate, List.cons_append, List.nil_append, Nat.reduceSub, Nat.reduceAdd]
  have R := ho.rules
  try simp (disch := first | omega | (simp only [PL]; omega)) only [PS, P1, P2, P3, P4, P5, P6, P7, P8, PA, PB, PC, Nat.reduceAdd, Nat.reduceSub, Nat.reduceMul, Nat.reduceLeDiff, Nat.reduceEqDiff, Nat.succ_ne_self, reduceCtorEq, Int.reduceToNat, Int.cast_ofNat_Int, Int.reduceEq, Int.reduceNe, Int.reduceLT, Int.reduceLE, R]
  refine i_newO fun b h' hle hb hn => ?_
  try simp (disch := first | omega | (simp only [PL]; omega)) only [PS, P1, P2, P3, P4, P5, P6, P7, P8, PA, PB, PC, Nat.reduceAdd, Nat.reduceSub, Nat.reduceMul, Nat.reduceLeDiff, Nat.reduceEqDiff, Nat.succ_ne_self, reduceCtorEq, Int.reduceToNat, Int.cast_ofNat_Int, Int.reduceEq, Int.reduceNe, Int.reduceLT, Int.reduceLE]
  have hn2 := objAt.le hn (fr_le h h')
  rw [show (⟨b, 0, none⟩ : Addr) = (⟨b, 0, none⟩ : Addr).add 0 from rfl]
  refine i_st hn2 0 2 rfl rfl (by omega) (by simp [Value.cells]) fun o h1 h2 => ?_
  try simp (disch := first | omega | (simp only [PL]; omega)) only [PS, P1, P2, P3, P4, P5, P6, P7, P8, PA, PB, PC, Nat.reduceAdd, Nat.reduceSub, Nat.reduceMul, Nat.reduceLeDiff, Nat.reduceEqDiff, Nat.succ_ne_self, reduceCtorEq, Int.reduceToNat, Int.cast_ofNat_Int, Int.reduceEq, Int.reduceNe, Int.reduceLT, Int.reduceLE]
  refine hK b _ ?_ hb ?_
  · intro x y hx
    by_cases e : x = b
    · subst e; rw [hb] at hx; cases hx
    · rw [Heap.set_ne e]; exact hle x y hx
  · have := h1 (fr h h') (by simp only [fr, hb])
    have e : fr h (h'.set b o) = (fr h h').set b o := by
      funext x
      simp only [fr, Heap.set]
      split <;> rename_i hx
      · rfl
      · split
        · rename_i e; subst e; rw [hb] at hx; cases hx
        · rfl
    rw [e]; exact this

def S24 : Spec := fun args h K => ∃ a rest lost s, args = [.pointer (some a), .string (str s)] ∧ LineAt h a rest lost ∧ rest.length + s.length ≤ 10000000 ∧ lost ≤ 2 ^ 60 ∧
  ∀ v h', keeps a 2 h h' → LineAt h' a (feed (rest ++ s)).2.1 (lost + (feed (rest ++ s)).2.2) → FrsV (fr h h') v (feed (rest ++ s)).1 → K v h'

/-- frames that are gathered -/
def GFrs (g : Heap) (rs : List FrR) (fs : List Fr) : Prop := rs.length = fs.length ∧ ∀ i, i < fs.length → FrR.ok g (rs.getD i default) (fs.getD i default)
theorem GFrs.push {g g' : Heap} {rs : List FrR} {fs : List Fr} (hg : GFrs g rs fs) (hl : Heap.le g g') {r : FrR} {f : Fr} (hr : FrR.ok g' r f) : GFrs g' (rs ++ [r]) (fs ++ [f]) := by
  obtain ⟨h1, h2⟩ := hg
  refine ⟨by simp [h1], fun i hi => ?_⟩
  simp only [List.length_append, List.length_cons, List.length_nil] at hi
  by_cases e : i < fs.length
  · have := h2 i e
    simp only [List.getD_eq_getElem?_getD] at this ⊢
    rw [List.getElem?_append_left (by omega), List.getElem?_append_left e]
    exact ⟨this.1, this.2.1, this.2.2.le hl⟩
  · have e' : i = fs.length := by omega
    subst e'
    simp only [List.getD_eq_getElem?_getD]
    rw [List.getElem?_append_right (by omega), List.getElem?_append_right (Nat.le_refl _)]
    simpa [h1] using hr
theorem GFrs.le {g g' : Heap} {rs : List FrR} {fs : List Fr} (hg : GFrs g rs fs) (hl : Heap.le g g') : GFrs g' rs fs :=
  ⟨hg.1, fun i hi => let ⟨a, b, c⟩ := hg.2 i hi; ⟨a, b, c.le hl⟩⟩
theorem FrR.enc_len (r : FrR) : r.enc.length = 3 := rfl

theorem keeps_dom {a : Addr} {n : Nat} {h0 g : Heap} (k : keeps a n h0 g) {o : Obj} (ha : g a.block = some o) : ∀ b, g b = none → h0 b = none := by
  intro b hb
  cases hh : h0 b with
  | none => rfl
  | some x =>
    by_cases e : b = a.block
    · subst e; rw [ha] at hb; cases hb
    · rw [k.1 b x e hh] at hb; cases hb
theorem fr_set {h0 g : Heap} {b : Nat} {o o' : Obj} (hb : h0 b = some o) : fr h0 (g.set b o') = fr h0 g := by
  funext x
  simp only [fr, Heap.set]
  split
  · rename_i hx
    split
    · rename_i e; subst e; rw [hb] at hx; cases hx
    · rfl
  · rfl

/-- a line that is fed: 'h0': what was known before; the frames so far lie in memory of their own -/
def FeedI (h0 : Heap) (a : Addr) (rest : List UInt8) (lost : Nat) (out : Value) (fs : List Fr) (h : Heap) : Prop :=
  ∃ g rs, OwnS FrR.enc 3 g h out rs ∧ LineAt g a rest lost ∧ keeps a 2 h0 g ∧ GFrs (fr h0 g) rs fs

theorem FeedI.line {h0 : Heap} {a : Addr} {rest : List UInt8} {lost : Nat} {out : Value} {fs : List Fr} {h : Heap} (hI : FeedI h0 a rest lost out fs h) : LineAt h a rest lost := by
  obtain ⟨g, rs, h1, h2, h3, h4⟩ := hI
  exact objAt.le h2 h1.1
/-- more is known -/
theorem FeedI.grow {h0 : Heap} {a : Addr} {rest : List UInt8} {lost : Nat} {out : Value} {fs : List Fr} {h h1 : Heap} (hI : FeedI h0 a rest lost out fs h) (hl : Heap.le h h1) :
    ∃ g rs, OwnS FrR.enc 3 g h1 out rs ∧ LineAt g a rest lost ∧ keeps a 2 h0 g ∧ GFrs (fr h0 g) rs fs ∧ Heap.le (fr h h1) (fr h0 g) := by
  obtain ⟨g, rs, a1, a2, a3, a4⟩ := hI
  have jl := join_l g (fr h h1)
  refine ⟨join g (fr h h1), rs, a1.grow hl, objAt.le a2 jl, a3.trans (.of_le jl), a4.le (fr_mono jl), ?_⟩
  intro b o hb
  have hbn : h b = none := by
    cases hh : h b with
    | none => rfl
    | some x => simp [fr, hh] at hb
  obtain ⟨_, c, t, h5, _⟩ := a2
  have hgb : g b = none := le_none a1.1 b hbn
  have h0b : h0 b = none := keeps_dom a3 h5 b hgb
  have e : (join g (fr h h1)) b = some o := by simp only [join, hgb]; simpa using hb
  simp only [fr, h0b]; exact e
theorem FeedI.add {h0 : Heap} {a : Addr} {rest : List UInt8} {lost : Nat} {out : Value} {fs : List Fr} {h : Heap} {g : Heap} {rs : List FrR} {r : FrR} {f : Fr}
    (h4 : LineAt g a rest lost) (h5 : keeps a 2 h0 g) (h6 : GFrs (fr h0 g) rs fs) (hr : FrR.ok (fr h0 g) r f) (ho : OwnS FrR.enc 3 g h out (rs ++ [r])) : FeedI h0 a rest lost out (fs ++ [f]) h :=
  ⟨g, rs ++ [r], ho, h4, h5, h6.push (Heap.le.refl _) hr⟩

/-- a cell of the line is written -/
theorem FeedI.write {N : Num} {Γ : Ctx} {h0 : Heap} {a : Addr} {rest : List UInt8} {lost : Nat} {out : Value} {fs : List Fr} {h : Heap} (hI : FeedI h0 a rest lost out fs h) (h00 : ∃ o, h0 a.block = some o) (j : Nat) {x : Value} (rest' : List UInt8) (lost' : Nat)
    (hx : x.cells.size = 1) (h1 : x.cells.toList.all one = true) (hj : j + 1 ≤ 2) (he : (lineC rest lost).take j ++ x.cells.toList ++ (lineC rest lost).drop (j + 1) = lineC rest' lost') {K : Value → Heap → Prop}
    (hK : ∀ h', FeedI h0 a rest' lost' out fs h' → K undef h') : efW N Γ (.st 1) [.pointer (some (a.add j)), x] h K := by
  obtain ⟨g, rs, a1, a2, a3, a4⟩ := hI
  have a2' := objAt.le a2 a1.1
  obtain ⟨o0, ho0⟩ := h00
  have hg : ∃ o, g a.block = some o := by obtain ⟨_, c, t, h5, _⟩ := a2; exact ⟨_, h5⟩
  obtain ⟨og, hog⟩ := hg
  have hgh : g a.block = h a.block := by rw [hog, a1.1 _ _ hog]
  refine i_st a2' j 1 hx h1 (by omega) hj fun o h2 h3 => hK _ ⟨g.set a.block o, rs, a1.set hog, ?_, a3.trans (h3 g hgh), ?_⟩
  · have := h2 g hgh; rw [he] at this; exact this
  · rw [fr_set ho0]; exact a4

theorem FeedI.done {h0 : Heap} {a : Addr} {rest : List UInt8} {lost : Nat} {out : Value} {fs : List Fr} {h : Heap} (hI : FeedI h0 a rest lost out fs h) (h00 : ∃ o, h0 a.block = some o) : keeps a 2 h0 h ∧ LineAt h a rest lost ∧ FrsV (fr h0 h) out fs := by
  obtain ⟨g, rs, a1, a2, a3, a4⟩ := hI
  refine ⟨a3.trans (.of_le a1.1), objAt.le a2 a1.1, rs, ?_, a4.1, fun i hi => ?_⟩
  · obtain ⟨_, c, t, h5, _⟩ := a2
    have := (a1.slf (sz := 3) FrR.enc_len).le (fr_anti (g := h0) (keeps_dom a3 h5))
    exact this
  · have := a4.2 i hi
    exact ⟨this.1, this.2.1, this.2.2.le (fr_mono a1.1)⟩

theorem F24_ok {N : Num} {Γ : Ctx} [GoodC Γ] (H57 : Sat S57 (Γ 57)) : Sat S24 (SF N Γ F24) := by
  rintro _ h K ⟨a, rest, lost, s, rfl, ho, hlen, hlost, hK⟩
  have h00 : ∃ o, h a.block = some o := by obtain ⟨_, c, t, h5, _⟩ := ho; exact ⟨_, h5⟩
  refine i_fun rfl ?_
  simp only [F24, env0, List.map, List.length, List.replicate, List.cons_append, List.nil_append, Nat.reduceSub, Nat.reduceAdd]
  try simp (disch := first | omega | (simp only [PL]; omega)) only [PS, P1, P2, P3, P4, P5, P6, P7, P8, PA, PB, PC, Nat.reduceAdd, Nat.reduceSub, Nat.reduceMul, Nat.reduceLeDiff, Nat.reduceEqDiff, Nat.succ_ne_self, reduceCtorEq, Int.reduceToNat, Int.cast_ofNat_Int, Int.reduceEq, Int.reduceNe, Int.reduceLT, Int.reduceLE, ho.rules]
  refine i_meet_blk (fun env h' => ∃ s' out l fs, FeedI h a rest l out fs h' ∧ feed (rest ++ s) = (fs, s', l - lost) ∧ lost ≤ l ∧ l ≤ 2 ^ 61 ∧ env = [some (.pointer (some a)), some (.string (str s')), none, some out, none, none, none, none, none, none, none, none, none, none, none, none, none]) ?_ ?_
  · rintro env h' ⟨s', out, l, fs, hI, hf, hl, _, rfl⟩
    try simp (disch := first | omega | (simp only [PL]; omega)) only [PS, P1, P2, P3, P4, P5, P6, P7, P8, PA, PB, PC, Nat.reduceAdd, Nat.reduceSub, Nat.reduceMul, Nat.reduceLeDiff, Nat.reduceEqDiff, Nat.succ_ne_self, reduceCtorEq, Int.reduceToNat, Int.cast_ofNat_Int, Int.reduceEq, Int.reduceNe, Int.reduceLT, Int.reduceLE]
    refine hI.write h00 0 s' l rfl rfl (by omega) rfl fun h2 hI2 => ?_
    try simp (disch := first | omega | (simp only [PL]; omega)) only [PS, P1, P2, P3, P4, P5, P6, P7, P8, PA, PB, PC, Nat.reduceAdd, Nat.reduceSub, Nat.reduceMul, Nat.reduceLeDiff, Nat.reduceEqDiff, Nat.succ_ne_self, reduceCtorEq, Int.reduceToNat, Int.cast_ofNat_Int, Int.reduceEq, Int.reduceNe, Int.reduceLT, Int.reduceLE]
    obtain ⟨k1, k2, k3⟩ := hI2.done h00
    rw [hf] at hK
    refine hK out h2 k1 ?_ k3
    dsimp only
    rw [show lost + (l - lost) = l by omega]; exact k2
  · refine i_loop (fun (p : List UInt8 × Value × Nat) => [some (.pointer (some a)), some (.string (str p.1)), none, some p.2.1, none, none, none, none, none, none, none, none, none, none, none, none, none])
      (fun p h' => ∃ fs, FeedI h a rest p.2.2 p.2.1 fs h' ∧ feed (rest ++ s) = (fs ++ (feed p.1).1, (feed p.1).2.1, p.2.2 - lost + (feed p.1).2.2) ∧ lost ≤ p.2.2 ∧ p.2.2 + p.1.length ≤ lost + 10000000 ∧ fs.length * 4 + p.1.length ≤ 10000000)
      (fun p => p.1.length) (rest ++ s, .slice none 0 0, lost) (by try simp only [Pe, and_true, true_and, and_self]) ⟨[], ⟨h, [], OwnS.nil (Heap.le.refl _), ho, keeps.refl _ _ _, by simp [GFrs]⟩, by simp, by simp, by simp; omega, by simp; omega⟩ ?_
    rintro ⟨s', out, l⟩ h' ⟨fs, hI, hf, hl, hb1, hb2⟩
    dsimp only at hI hf hl hb1 hb2
    try simp (disch := first | omega | (simp only [PL]; omega)) only [PS, P1, P2, P3, P4, P5, P6, P7, P8, PA, PB, PC, Nat.reduceAdd, Nat.reduceSub, Nat.reduceMul, Nat.reduceLeDiff, Nat.reduceEqDiff, Nat.succ_ne_self, reduceCtorEq, Int.reduceToNat, Int.cast_ofNat_Int, Int.reduceEq, Int.reduceNe, Int.reduceLT, Int.reduceLE]
    refine i_cond (fun c1 => ?_) (fun c1 => ?_)
    rotate_left
    · have : s' = [] := by simpa using c1
      subst this
      try simp (disch := first | omega | (simp only [PL]; omega)) only [PS, P1, P2, P3, P4, P5, P6, P7, P8, PA, PB, PC, Nat.reduceAdd, Nat.reduceSub, Nat.reduceMul, Nat.reduceLeDiff, Nat.reduceEqDiff, Nat.succ_ne_self, reduceCtorEq, Int.reduceToNat, Int.cast_ofNat_Int, Int.reduceEq, Int.reduceNe, Int.reduceLT, Int.reduceLE]
      refine k_meet _ ?_ ⟨[], out, l, fs, hI, ?_, hl, by omega, rfl⟩
      · try simp only [Pe, and_true, true_and, and_self]
      · rw [hf, feed_nil]; simp
    have hlaw := first_law s' c1
    have hfc := feed_cons c1
    have hp : 0 < s'.length := List.length_pos_iff.2 c1
    try simp (disch := first | omega | (simp only [PL]; omega)) only [PS, P1, P2, P3, P4, P5, P6, P7, P8, PA, PB, PC, Nat.reduceAdd, Nat.reduceSub, Nat.reduceMul, Nat.reduceLeDiff, Nat.reduceEqDiff, Nat.succ_ne_self, reduceCtorEq, Int.reduceToNat, Int.cast_ofNat_Int, Int.reduceEq, Int.reduceNe, Int.reduceLT, Int.reduceLE]
    refine i_call H57 ⟨s', rfl, c1, by omega, fun v h1 hle hv => ?_⟩
    obtain ⟨g, rs, a1, a2, a3, a4, a5⟩ := hI.grow hle
    have hI1 : FeedI h a rest l out fs h1 := ⟨g, rs, a1, a2, a3, a4⟩
    rw [hlaw.1] at hv ⊢
    obtain ⟨sv, rfl, hsv⟩ := hv
    try simp (disch := first | omega | (simp only [PL]; omega)) only [PS, P1, P2, P3, P4, P5, P6, P7, P8, PA, PB, PC, Nat.reduceAdd, Nat.reduceSub, Nat.reduceMul, Nat.reduceLeDiff, Nat.reduceEqDiff, Nat.succ_ne_self, reduceCtorEq, Int.reduceToNat, Int.cast_ofNat_Int, Int.reduceEq, Int.reduceNe, Int.reduceLT, Int.reduceLE, hsv.one]
    cases hfa : fAt s' with
    | none =>
      rw [hfa] at hfc hsv
      simp only at hfc
      have hb := hlaw.2.1 hfa
      by_cases hw : begins s'
      · have hw2 := hb.2 hw
        rw [if_pos hw] at hfc
        try simp (disch := first | omega | (simp only [PL]; omega)) only [PS, P1, P2, P3, P4, P5, P6, P7, P8, PA, PB, PC, Nat.reduceAdd, Nat.reduceSub, Nat.reduceMul, Nat.reduceLeDiff, Nat.reduceEqDiff, Nat.succ_ne_self, reduceCtorEq, Int.reduceToNat, Int.cast_ofNat_Int, Int.reduceEq, Int.reduceNe, Int.reduceLT, Int.reduceLE, hw2]
        refine k_meet _ ?_ ⟨s', out, l, fs, hI1, ?_, hl, by omega, rfl⟩
        · try simp only [Pe, and_true, true_and, and_self]
        · rw [hf, hfc]; simp
      · have hw2 : (first s').2 = false := by
          cases h2 : (first s').2 with
          | false => rfl
          | true => exact absurd (hb.1 h2) hw
        rw [if_neg hw] at hfc
        try simp (disch := first | omega | (simp only [PL]; omega)) only [PS, P1, P2, P3, P4, P5, P6, P7, P8, PA, PB, PC, Nat.reduceAdd, Nat.reduceSub, Nat.reduceMul, Nat.reduceLeDiff, Nat.reduceEqDiff, Nat.succ_ne_self, reduceCtorEq, Int.reduceToNat, Int.cast_ofNat_Int, Int.reduceEq, Int.reduceNe, Int.reduceLT, Int.reduceLE, hw2, hI1.line.rules]
        refine hI1.write h00 1 rest (l + 1) rfl rfl (by omega) rfl fun h2 hI2 => ?_
        try simp (disch := first | omega | (simp only [PL]; omega)) only [PS, P1, P2, P3, P4, P5, P6, P7, P8, PA, PB, PC, Nat.reduceAdd, Nat.reduceSub, Nat.reduceMul, Nat.reduceLeDiff, Nat.reduceEqDiff, Nat.succ_ne_self, reduceCtorEq, Int.reduceToNat, Int.cast_ofNat_Int, Int.reduceEq, Int.reduceNe, Int.reduceLT, Int.reduceLE]
        refine k_loop (s'.drop 1, out, l + 1) (by simp only [List.length_drop]; omega) ?_ ⟨fs, hI2, ?_, by dsimp only; omega, by simp only [List.length_drop]; omega, by simp only [List.length_drop]; omega⟩
        · try simp only [Pe, and_true, true_and, and_self]; rw [List.take_of_length_le (by omega)]
        · rw [hf, hfc]; dsimp only; congr 2; omega
    | some p =>
      obtain ⟨f, k⟩ := p
      have hk := fAt_pos hfa
      have hw2 := hlaw.2.2 (by rw [hfa]; simp)
      rw [hfa] at hfc hsv
      simp only at hfc
      try simp (disch := first | omega | (simp only [PL]; omega)) only [PS, P1, P2, P3, P4, P5, P6, P7, P8, PA, PB, PC, Nat.reduceAdd, Nat.reduceSub, Nat.reduceMul, Nat.reduceLeDiff, Nat.reduceEqDiff, Nat.succ_ne_self, reduceCtorEq, Int.reduceToNat, Int.cast_ofNat_Int, Int.reduceEq, Int.reduceNe, Int.reduceLT, Int.reduceLE, hw2]
      refine i_cond_f (by omega) ?_
      try simp (disch := first | omega | (simp only [PL]; omega)) only [PS, P1, P2, P3, P4, P5, P6, P7, P8, PA, PB, PC, Nat.reduceAdd, Nat.reduceSub, Nat.reduceMul, Nat.reduceLeDiff, Nat.reduceEqDiff, Nat.succ_ne_self, reduceCtorEq, Int.reduceToNat, Int.cast_ofNat_Int, Int.reduceEq, Int.reduceNe, Int.reduceLT, Int.reduceLE, hsv.one]
      refine i_bslS FrR.enc 3 FrR.enc_len [⟨f.ty, sv, f.warm⟩] (by simp [FrR.enc]) rfl (by simp [maxLen]) fun v1 h2 hle2 ho1 => ?_
      try simp (disch := first | omega | (simp only [PL]; omega)) only [PS, P1, P2, P3, P4, P5, P6, P7, P8, PA, PB, PC, Nat.reduceAdd, Nat.reduceSub, Nat.reduceMul, Nat.reduceLeDiff, Nat.reduceEqDiff, Nat.succ_ne_self, reduceCtorEq, Int.reduceToNat, Int.cast_ofNat_Int, Int.reduceEq, Int.reduceNe, Int.reduceLT, Int.reduceLE]
      refine i_app1 FrR.enc_len (by intro x hx; simp at hx; subst hx; simp [FrR.enc, P8, hsv.one]) (a1.le hle2) (ho1.sl FrR.enc_len) (by rw [a4.1]; simp only [List.length_cons, List.length_nil]; omega) fun v2 h3 ho2 => ?_
      have hI3 := FeedI.add a2 a3 a4 (r := ⟨f.ty, sv, f.warm⟩) (f := f) ⟨rfl, rfl, by simpa using hsv.le a5⟩ ho2
      try simp (disch := first | omega | (simp only [PL]; omega)) only [PS, P1, P2, P3, P4, P5, P6, P7, P8, PA, PB, PC, Nat.reduceAdd, Nat.reduceSub, Nat.reduceMul, Nat.reduceLeDiff, Nat.reduceEqDiff, Nat.succ_ne_self, reduceCtorEq, Int.reduceToNat, Int.cast_ofNat_Int, Int.reduceEq, Int.reduceNe, Int.reduceLT, Int.reduceLE]
      refine k_loop (s'.drop k, v2, l) (by simp only [List.length_drop]; omega) ?_ ⟨fs ++ [f], hI3, ?_, hl, by simp only [List.length_drop]; omega, by simp only [List.length_drop, List.length_append, List.length_cons, List.length_nil]; omega⟩
      · try simp only [Pe, and_true, true_and, and_self]; rw [List.take_of_length_le (by omega)]
      · rw [hf, hfc]; simp
theorem F25_ok {N : Num} {Γ : Ctx} [GoodC Γ] (H58 : Sat S58 (Γ 58)) (H59 : Sat S59 (Γ 59)) : Sat S24 (SF N Γ F25) := by
  rintro _ h K ⟨a, rest, lost, s, rfl, ho, hlen, hlost, hK⟩
  have h00 : ∃ o, h a.block = some o := by obtain ⟨_, c, t, h5, _⟩ := ho; exact ⟨_, h5⟩
  refine i_fun rfl ?_
  simp only [F25, env0, List.map, List.length, List.replicate, List.cons_append, List.nil_append, Nat.reduceSub, Nat.reduceAdd]
  try simp (disch := first | omega | (simp only [PL]; omega)) only [PS, P1, P2, P3, P4, P5, P6, P7, P8, PA, PB, PC, Nat.reduceAdd, Nat.reduceSub, Nat.reduceMul, Nat.reduceLeDiff, Nat.reduceEqDiff, Nat.succ_ne_self, reduceCtorEq, Int.reduceToNat, Int.cast_ofNat_Int, Int.reduceEq, Int.reduceNe, Int.reduceLT, Int.reduceLE, ho.rules]
  refine i_meet_blk (fun env h' => ∃ s' out l fs, FeedI h a rest l out fs h' ∧ feed (rest ++ s) = (fs, s', l - lost) ∧ lost ≤ l ∧ l ≤ 2 ^ 61 ∧ env = [some (.pointer (some a)), some (.string (str s')), none, some out, none, none, none, none, none, none, none, none, none, none, none, none, none]) ?_ ?_
  · rintro env h' ⟨s', out, l, fs, hI, hf, hl, _, rfl⟩
    try simp (disch := first | omega | (simp only [PL]; omega)) only [PS, P1, P2, P3, P4, P5, P6, P7, P8, PA, PB, PC, Nat.reduceAdd, Nat.reduceSub, Nat.reduceMul, Nat.reduceLeDiff, Nat.reduceEqDiff, Nat.succ_ne_self, reduceCtorEq, Int.reduceToNat, Int.cast_ofNat_Int, Int.reduceEq, Int.reduceNe, Int.reduceLT, Int.reduceLE]
    refine hI.write h00 0 s' l rfl rfl (by omega) rfl fun h2 hI2 => ?_
    try simp (disch := first | omega | (simp only [PL]; omega)) only [PS, P1, P2, P3, P4, P5, P6, P7, P8, PA, PB, PC, Nat.reduceAdd, Nat.reduceSub, Nat.reduceMul, Nat.reduceLeDiff, Nat.reduceEqDiff, Nat.succ_ne_self, reduceCtorEq, Int.reduceToNat, Int.cast_ofNat_Int, Int.reduceEq, Int.reduceNe, Int.reduceLT, Int.reduceLE]
    obtain ⟨k1, k2, k3⟩ := hI2.done h00
    rw [hf] at hK
    refine hK out h2 k1 ?_ k3
    dsimp only
    rw [show lost + (l - lost) = l by omega]; exact k2
  · refine i_loop (fun (p : List UInt8 × Value × Nat) => [some (.pointer (some a)), some (.string (str p.1)), none, some p.2.1, none, none, none, none, none, none, none, none, none, none, none, none, none])
      (fun p h' => ∃ fs, FeedI h a rest p.2.2 p.2.1 fs h' ∧ feed (rest ++ s) = (fs ++ (feed p.1).1, (feed p.1).2.1, p.2.2 - lost + (feed p.1).2.2) ∧ lost ≤ p.2.2 ∧ p.2.2 + p.1.length ≤ lost + 10000000 ∧ fs.length * 4 + p.1.length ≤ 10000000)
      (fun p => p.1.length) (rest ++ s, .slice none 0 0, lost) (by try simp only [Pe, and_true, true_and, and_self]) ⟨[], ⟨h, [], OwnS.nil (Heap.le.refl _), ho, keeps.refl _ _ _, by simp [GFrs]⟩, by simp, by simp, by simp; omega, by simp; omega⟩ ?_
    rintro ⟨s', out, l⟩ h' ⟨fs, hI, hf, hl, hb1, hb2⟩
    dsimp only at hI hf hl hb1 hb2
    try simp (disch := first | omega | (simp only [PL]; omega)) only [PS, P1, P2, P3, P4, P5, P6, P7, P8, PA, PB, PC, Nat.reduceAdd, Nat.reduceSub, Nat.reduceMul, Nat.reduceLeDiff, Nat.reduceEqDiff, Nat.succ_ne_self, reduceCtorEq, Int.reduceToNat, Int.cast_ofNat_Int, Int.reduceEq, Int.reduceNe, Int.reduceLT, Int.reduceLE]
    refine i_cond (fun c1 => ?_) (fun c1 => ?_)
    rotate_left
    · have : s' = [] := List.eq_nil_of_length_eq_zero (by omega)
      subst this
      try simp (disch := first | omega | (simp only [PL]; omega)) only [PS, P1, P2, P3, P4, P5, P6, P7, P8, PA, PB, PC, Nat.reduceAdd, Nat.reduceSub, Nat.reduceMul, Nat.reduceLeDiff, Nat.reduceEqDiff, Nat.succ_ne_self, reduceCtorEq, Int.reduceToNat, Int.cast_ofNat_Int, Int.reduceEq, Int.reduceNe, Int.reduceLT, Int.reduceLE]
      refine k_meet _ ?_ ⟨[], out, l, fs, hI, ?_, hl, by omega, rfl⟩
      · try simp only [Pe, and_true, true_and, and_self]
      · rw [hf, feed_nil]; simp
    have c1 : s' ≠ [] := by intro e; subst e; simp at c1
    have hfc := feed_cons c1
    have hp : 0 < s'.length := by omega
    try simp (disch := first | omega | (simp only [PL]; omega)) only [PS, P1, P2, P3, P4, P5, P6, P7, P8, PA, PB, PC, Nat.reduceAdd, Nat.reduceSub, Nat.reduceMul, Nat.reduceLeDiff, Nat.reduceEqDiff, Nat.succ_ne_self, reduceCtorEq, Int.reduceToNat, Int.cast_ofNat_Int, Int.reduceEq, Int.reduceNe, Int.reduceLT, Int.reduceLE]
    refine i_call H58 ⟨s', rfl, by omega, fun v h1 hle hv => ?_⟩
    obtain ⟨g, rs, a1, a2, a3, a4, a5⟩ := hI.grow hle
    have hI1 : FeedI h a rest l out fs h1 := ⟨g, rs, a1, a2, a3, a4⟩
    obtain ⟨sv, rfl, hsv⟩ := hv
    try simp (disch := first | omega | (simp only [PL]; omega)) only [PS, P1, P2, P3, P4, P5, P6, P7, P8, PA, PB, PC, Nat.reduceAdd, Nat.reduceSub, Nat.reduceMul, Nat.reduceLeDiff, Nat.reduceEqDiff, Nat.succ_ne_self, reduceCtorEq, Int.reduceToNat, Int.cast_ofNat_Int, Int.reduceEq, Int.reduceNe, Int.reduceLT, Int.reduceLE, hsv.one]
    cases hfa : fAt s' with
    | none =>
      rw [hfa] at hfc hsv
      simp only at hfc
      try simp (disch := first | omega | (simp only [PL]; omega)) only [PS, P1, P2, P3, P4, P5, P6, P7, P8, PA, PB, PC, Nat.reduceAdd, Nat.reduceSub, Nat.reduceMul, Nat.reduceLeDiff, Nat.reduceEqDiff, Nat.succ_ne_self, reduceCtorEq, Int.reduceToNat, Int.cast_ofNat_Int, Int.reduceEq, Int.reduceNe, Int.reduceLT, Int.reduceLE]
      refine i_call H59 ⟨s', rfl, c1, by omega, ?_⟩
      try simp (disch := first | omega | (simp only [PL]; omega)) only [PS, P1, P2, P3, P4, P5, P6, P7, P8, PA, PB, PC, Nat.reduceAdd, Nat.reduceSub, Nat.reduceMul, Nat.reduceLeDiff, Nat.reduceEqDiff, Nat.succ_ne_self, reduceCtorEq, Int.reduceToNat, Int.cast_ofNat_Int, Int.reduceEq, Int.reduceNe, Int.reduceLT, Int.reduceLE]
      refine i_cond (fun hw => ?_) (fun hw => ?_)
      · rw [if_pos hw] at hfc
        try simp (disch := first | omega | (simp only [PL]; omega)) only [PS, P1, P2, P3, P4, P5, P6, P7, P8, PA, PB, PC, Nat.reduceAdd, Nat.reduceSub, Nat.reduceMul, Nat.reduceLeDiff, Nat.reduceEqDiff, Nat.succ_ne_self, reduceCtorEq, Int.reduceToNat, Int.cast_ofNat_Int, Int.reduceEq, Int.reduceNe, Int.reduceLT, Int.reduceLE]
        refine k_meet _ ?_ ⟨s', out, l, fs, hI1, ?_, hl, by omega, rfl⟩
        · try simp only [Pe, and_true, true_and, and_self]
        · rw [hf, hfc]; simp
      · rw [if_neg hw] at hfc
        try simp (disch := first | omega | (simp only [PL]; omega)) only [PS, P1, P2, P3, P4, P5, P6, P7, P8, PA, PB, PC, Nat.reduceAdd, Nat.reduceSub, Nat.reduceMul, Nat.reduceLeDiff, Nat.reduceEqDiff, Nat.succ_ne_self, reduceCtorEq, Int.reduceToNat, Int.cast_ofNat_Int, Int.reduceEq, Int.reduceNe, Int.reduceLT, Int.reduceLE, hI1.line.rules]
        refine hI1.write h00 1 rest (l + 1) rfl rfl (by omega) rfl fun h2 hI2 => ?_
        try simp (disch := first | omega | (simp only [PL]; omega)) only [PS, P1, P2, P3, P4, P5, P6, P7, P8, PA, PB, PC, Nat.reduceAdd, Nat.reduceSub, Nat.reduceMul, Nat.reduceLeDiff, Nat.reduceEqDiff, Nat.succ_ne_self, reduceCtorEq, Int.reduceToNat, Int.cast_ofNat_Int, Int.reduceEq, Int.reduceNe, Int.reduceLT, Int.reduceLE]
        refine k_loop (s'.drop 1, out, l + 1) (by simp only [List.length_drop]; omega) ?_ ⟨fs, hI2, ?_, by dsimp only; omega, by simp only [List.length_drop]; omega, by simp only [List.length_drop]; omega⟩
        · try simp only [Pe, and_true, true_and, and_self]; rw [List.take_of_length_le (by omega)]
        · rw [hf, hfc]; dsimp only; congr 2; omega
    | some p =>
      obtain ⟨f, k⟩ := p
      have hk := fAt_pos hfa
      rw [hfa] at hfc hsv
      simp only at hfc
      try simp (disch := first | omega | (simp only [PL]; omega)) only [PS, P1, P2, P3, P4, P5, P6, P7, P8, PA, PB, PC, Nat.reduceAdd, Nat.reduceSub, Nat.reduceMul, Nat.reduceLeDiff, Nat.reduceEqDiff, Nat.succ_ne_self, reduceCtorEq, Int.reduceToNat, Int.cast_ofNat_Int, Int.reduceEq, Int.reduceNe, Int.reduceLT, Int.reduceLE]
      refine i_cond_t (by omega) ?_
      try simp (disch := first | omega | (simp only [PL]; omega)) only [PS, P1, P2, P3, P4, P5, P6, P7, P8, PA, PB, PC, Nat.reduceAdd, Nat.reduceSub, Nat.reduceMul, Nat.reduceLeDiff, Nat.reduceEqDiff, Nat.succ_ne_self, reduceCtorEq, Int.reduceToNat, Int.cast_ofNat_Int, Int.reduceEq, Int.reduceNe, Int.reduceLT, Int.reduceLE, hsv.one]
      refine i_bslS FrR.enc 3 FrR.enc_len [⟨f.ty, sv, f.warm⟩] (by simp [FrR.enc]) rfl (by simp [maxLen]) fun v1 h2 hle2 ho1 => ?_
      try simp (disch := first | omega | (simp only [PL]; omega)) only [PS, P1, P2, P3, P4, P5, P6, P7, P8, PA, PB, PC, Nat.reduceAdd, Nat.reduceSub, Nat.reduceMul, Nat.reduceLeDiff, Nat.reduceEqDiff, Nat.succ_ne_self, reduceCtorEq, Int.reduceToNat, Int.cast_ofNat_Int, Int.reduceEq, Int.reduceNe, Int.reduceLT, Int.reduceLE]
      refine i_app1 FrR.enc_len (by intro x hx; simp at hx; subst hx; simp [FrR.enc, P8, hsv.one]) (a1.le hle2) (ho1.sl FrR.enc_len) (by rw [a4.1]; simp only [List.length_cons, List.length_nil]; omega) fun v2 h3 ho2 => ?_
      have hI3 := FeedI.add a2 a3 a4 (r := ⟨f.ty, sv, f.warm⟩) (f := f) ⟨rfl, rfl, by simpa using hsv.le a5⟩ ho2
      try simp (disch := first | omega | (simp only [PL]; omega)) only [PS, P1, P2, P3, P4, P5, P6, P7, P8, PA, PB, PC, Nat.reduceAdd, Nat.reduceSub, Nat.reduceMul, Nat.reduceLeDiff, Nat.reduceEqDiff, Nat.succ_ne_self, reduceCtorEq, Int.reduceToNat, Int.cast_ofNat_Int, Int.reduceEq, Int.reduceNe, Int.reduceLT, Int.reduceLE]
      refine k_loop (s'.drop k, v2, l) (by simp only [List.length_drop]; omega) ?_ ⟨fs ++ [f], hI3, ?_, hl, by simp only [List.length_drop]; omega, by simp only [List.length_drop, List.length_append, List.length_cons, List.length_nil]; omega⟩
      · try simp only [Pe, and_true, true_and, and_self]; rw [List.take_of_length_le (by omega)]
      · rw [hf, hfc]; simp
end Go.Cw
namespace Go.Cw
open Go

/-- a closed fact that holds -/
def STrue : Spec := fun args h K => args = [] ∧ ∀ h', Heap.le h h' → K (.bool true) h'

theorem frames_fact : feed ([120] ++ (⟨3, [], 21⟩ : Fr).bytes) = ([⟨3, [], 21⟩], [], 1) := by decide +kernel

theorem F16_ok {N : Num} {Γ : Ctx} [GoodC Γ] (H18 : Sat (S18 N) (Γ 18)) (H24 : Sat S24 (Γ 24)) (H19 : Sat (S19 N) (Γ 19)) (H26 : Sat S26 (Γ 26)) (H27 : Sat S27 (Γ 27)) : Sat STrue (SF N Γ F16) := by
  rintro _ h K ⟨rfl, hK⟩
  refine i_fun rfl ?_
  simp only [F16, env0, List.map, List.length, List.replicate, List.cons_append, List.nil_append, Nat.reduceSub, Nat.reduceAdd]
  try simp (disch := first | omega | (simp only [PL]; omega)) only [PS, P1, P2, P3, P4, P5, P6, P7, P8, PA, PB, PC, Nat.reduceAdd, Nat.reduceSub, Nat.reduceMul, Nat.reduceLeDiff, Nat.reduceEqDiff, Nat.succ_ne_self, reduceCtorEq, Int.reduceToNat, Int.cast_ofNat_Int, Int.reduceEq, Int.reduceNe, Int.reduceLT, Int.reduceLE]
  refine i_call H18 ⟨_, ⟨3, [], 21⟩, rfl, ⟨.slice none 0 0, rfl, Sl.nil⟩, fun h1 hle1 => ?_⟩
  have hf : (⟨3, [], 21⟩ : Fr).fault = 0 := by decide
  have hl : (⟨3, [], 21⟩ : Fr).bytes.length = 5 := by decide
  simp only [hf, if_true]
  try simp (disch := first | omega | (simp only [PL]; omega)) only [PS, P1, P2, P3, P4, P5, P6, P7, P8, PA, PB, PC, Nat.reduceAdd, Nat.reduceSub, Nat.reduceMul, Nat.reduceLeDiff, Nat.reduceEqDiff, Nat.succ_ne_self, reduceCtorEq, Int.reduceToNat, Int.cast_ofNat_Int, Int.reduceEq, Int.reduceNe, Int.reduceLT, Int.reduceLE]
  refine i_newO fun b h2 hle2 hb hn => ?_
  have hn2 := objAt.le hn (fr_le h1 h2)
  try simp (disch := first | omega | (simp only [PL]; omega)) only [PS, P1, P2, P3, P4, P5, P6, P7, P8, PA, PB, PC, Nat.reduceAdd, Nat.reduceSub, Nat.reduceMul, Nat.reduceLeDiff, Nat.reduceEqDiff, Nat.succ_ne_self, reduceCtorEq, Int.reduceToNat, Int.cast_ofNat_Int, Int.reduceEq, Int.reduceNe, Int.reduceLT, Int.reduceLE]
  refine i_call H24 ⟨⟨b, 0, none⟩, [], 0, [120] ++ (⟨3, [], 21⟩ : Fr).bytes, rfl, hn2, by simp [hl], by omega, fun v h3 k1 k2 k3 => ?_⟩
  simp only [List.nil_append] at k2 k3
  rw [frames_fact] at k2 k3
  obtain ⟨rs, hs, hlen, hrs⟩ := k3
  have R := (hs.le (fr_le _ _)).rules 3 FrR.enc_len default
  have hr0 := hrs 0 (by simp)
  simp only [List.length_cons, List.length_nil] at hlen
  rw [hlen] at R
  try simp (disch := first | omega | (simp only [PL]; omega)) only [PS, P1, P2, P3, P4, P5, P6, P7, P8, PA, PB, PC, Nat.reduceAdd, Nat.reduceSub, Nat.reduceMul, Nat.reduceLeDiff, Nat.reduceEqDiff, Nat.succ_ne_self, reduceCtorEq, Int.reduceToNat, Int.cast_ofNat_Int, Int.reduceEq, Int.reduceNe, Int.reduceLT, Int.reduceLE]
  refine i_call H19 ⟨0, 0, rfl, ?_⟩
  have e21 : (rs.getD 0 default).warm = 21 := hr0.2.1
  try simp (disch := first | omega | (simp only [PL]; omega)) only [PS, P1, P2, P3, P4, P5, P6, P7, P8, PA, PB, PC, Nat.reduceAdd, Nat.reduceSub, Nat.reduceMul, Nat.reduceLeDiff, Nat.reduceEqDiff, Nat.succ_ne_self, reduceCtorEq, Int.reduceToNat, Int.cast_ofNat_Int, Int.reduceEq, Int.reduceNe, Int.reduceLT, Int.reduceLE, R, FrR.enc, e21]
  refine i_call H26 ⟨_, _, _, rfl, k2, ?_⟩
  try simp (disch := first | omega | (simp only [PL]; omega)) only [PS, P1, P2, P3, P4, P5, P6, P7, P8, PA, PB, PC, Nat.reduceAdd, Nat.reduceSub, Nat.reduceMul, Nat.reduceLeDiff, Nat.reduceEqDiff, Nat.succ_ne_self, reduceCtorEq, Int.reduceToNat, Int.cast_ofNat_Int, Int.reduceEq, Int.reduceNe, Int.reduceLT, Int.reduceLE]
  refine i_call H27 ⟨_, _, _, rfl, k2, ?_⟩
  try simp (disch := first | omega | (simp only [PL]; omega)) only [PS, P1, P2, P3, P4, P5, P6, P7, P8, PA, PB, PC, Nat.reduceAdd, Nat.reduceSub, Nat.reduceMul, Nat.reduceLeDiff, Nat.reduceEqDiff, Nat.succ_ne_self, reduceCtorEq, Int.reduceToNat, Int.cast_ofNat_Int, Int.reduceEq, Int.reduceNe, Int.reduceLT, Int.reduceLE]
  refine hK h3 ?_
  have hle := hle1.trans hle2
  exact k1.le hle (le_none hle1 b hb)

def S4 : Spec := fun args h K => ∃ v f, args = [v] ∧ FrV h v f ∧ ∀ h', Heap.le h h' → K (.bool true) h'

theorem OwnS.pre {α : Type} {enc : α → List Value} {sz : Nat} (he : ∀ x, (enc x).length = sz) {h0 h : Heap} {v : Value} {l l' : List α} (ho : OwnS enc sz h0 h v (l ++ l')) :
    ∃ v', (∀ m m', o3V (.lsl sz) (.v v) (.v (.int m 0)) (.v (.int m' l.length)) = some (.v v')) ∧ Sl enc h v' l := by
  obtain ⟨_, a, cap, rfl, hcap, _, h3⟩ := ho
  rw [List.length_append] at hcap
  refine ⟨.slice (if cap = 0 then a else a.map (·.add (0 * sz))) l.length cap, ?_, ?_⟩
  · intro m m'
    simp only [o3V]
    rw [if_pos ⟨by omega, by omega, by omega⟩]
    simp
  · refine ⟨_, cap, rfl, by omega, ?_⟩
    rcases h3 with ⟨_, h4, _⟩ | ⟨b, c, t, rfl, _, h5, h6, h7⟩
    · exact .inl (List.append_eq_nil_iff.1 h4).1
    · refine .inr ⟨⟨b, 0, none⟩, ?_, rfl, c, t, _, h5, ?_, ?_⟩
      · simp [Addr.add]
      · have := flat_len he l
        rw [this, h6]
        have := Nat.mul_le_mul_right sz (show l.length ≤ cap by omega)
        simpa using this
      · intro i hi
        have := h7 i (by rw [List.flatMap_append, List.length_append]; omega)
        rw [Nat.zero_add, this, List.flatMap_append, List.getElem?_append_left hi]

theorem F4_ok {N : Num} {Γ : Ctx} [GoodC Γ] (H16 : Sat STrue (Γ 16)) (H17 : Sat S17 (Γ 17)) (H18 : Sat (S18 N) (Γ 18)) (H20 : Sat (S20 N) (Γ 20)) (H19 : Sat (S19 N) (Γ 19)) (H21 : Sat S21 (Γ 21)) (H22 : Sat S22 (Γ 22)) : Sat S4 (SF N Γ F4) := by
  rintro _ h K ⟨_, f, rfl, ⟨s, rfl, hs⟩, hK⟩
  refine i_fun rfl ?_
  simp only [F4, env0, List.map, List.length, List.replicate, List.cons_append, List.nil_append, Nat.reduceSub, Nat.reduceAdd]
  have R0 := hs.rules 4 Rd.enc_len default
  try simp (disch := first | omega | (simp only [PL]; omega)) only [PS, P1, P2, P3, P4, P5, P6, P7, P8, PA, PB, PC, Nat.reduceAdd, Nat.reduceSub, Nat.reduceMul, Nat.reduceLeDiff, Nat.reduceEqDiff, Nat.succ_ne_self, reduceCtorEq, Int.reduceToNat, Int.cast_ofNat_Int, Int.reduceEq, Int.reduceNe, Int.reduceLT, Int.reduceLE]
  refine i_call H16 ⟨rfl, fun h1 hle1 => ?_⟩
  have R := (hs.le hle1).rules 4 Rd.enc_len default
  try simp (disch := first | omega | (simp only [PL]; omega)) only [PS, P1, P2, P3, P4, P5, P6, P7, P8, PA, PB, PC, Nat.reduceAdd, Nat.reduceSub, Nat.reduceMul, Nat.reduceLeDiff, Nat.reduceEqDiff, Nat.succ_ne_self, reduceCtorEq, Int.reduceToNat, Int.cast_ofNat_Int, Int.reduceEq, Int.reduceNe, Int.reduceLT, Int.reduceLE, R]
  refine i_cond (fun c1 => ?_) (fun c1 => ?_)
  · try simp (disch := first | omega | (simp only [PL]; omega)) only [PS, P1, P2, P3, P4, P5, P6, P7, P8, PA, PB, PC, Nat.reduceAdd, Nat.reduceSub, Nat.reduceMul, Nat.reduceLeDiff, Nat.reduceEqDiff, Nat.succ_ne_self, reduceCtorEq, Int.reduceToNat, Int.cast_ofNat_Int, Int.reduceEq, Int.reduceNe, Int.reduceLT, Int.reduceLE]
    exact hK h1 hle1
  try simp (disch := first | omega | (simp only [PL]; omega)) only [PS, P1, P2, P3, P4, P5, P6, P7, P8, PA, PB, PC, Nat.reduceAdd, Nat.reduceSub, Nat.reduceMul, Nat.reduceLeDiff, Nat.reduceEqDiff, Nat.succ_ne_self, reduceCtorEq, Int.reduceToNat, Int.cast_ofNat_Int, Int.reduceEq, Int.reduceNe, Int.reduceLT, Int.reduceLE, R]
  have hz : (1 : Int) ≤ 1 := by omega
  have hr10 : f.reads.length ≤ 10 := by omega
  refine i_meet_alt (fun env h4 => ∃ v', Heap.le h1 h4 ∧ Sl Rd.enc h4 v' f.reads ∧ env = [none, some (.agg #[.int .i64 f.ty, s, .int .i64 f.warm]), none, some (.bool true), some (.agg #[.int .i64 f.ty, v', .int .i64 f.warm]), none, none, none, none, none, none, none, none, none, none, none, none, none, none, none, none, none, none, none, none, none, none, none, none, none, none, none, none]) ?_ ?_
  · rintro env h4 ⟨v', hle4, hs4, rfl⟩
    have hvo : FrV h4 (.agg #[.int .i64 f.ty, s, .int .i64 f.warm]) f := ⟨s, rfl, (hs.le (hle1.trans hle4))⟩
    have hvn : FrV h4 (.agg #[.int .i64 f.ty, v', .int .i64 f.warm]) f := ⟨v', rfl, hs4⟩
    try simp (disch := first | omega | (simp only [PL]; omega)) only [PS, P1, P2, P3, P4, P5, P6, P7, P8, PA, PB, PC, Nat.reduceAdd, Nat.reduceSub, Nat.reduceMul, Nat.reduceLeDiff, Nat.reduceEqDiff, Nat.succ_ne_self, reduceCtorEq, Int.reduceToNat, Int.cast_ofNat_Int, Int.reduceEq, Int.reduceNe, Int.reduceLT, Int.reduceLE]
    refine i_call H17 ⟨_, f, rfl, hvo, ?_⟩
    try simp (disch := first | omega | (simp only [PL]; omega)) only [PS, P1, P2, P3, P4, P5, P6, P7, P8, PA, PB, PC, Nat.reduceAdd, Nat.reduceSub, Nat.reduceMul, Nat.reduceLeDiff, Nat.reduceEqDiff, Nat.succ_ne_self, reduceCtorEq, Int.reduceToNat, Int.cast_ofNat_Int, Int.reduceEq, Int.reduceNe, Int.reduceLT, Int.reduceLE]
    refine i_call H18 ⟨_, f, rfl, hvn, fun h5 hle5 => ?_⟩
    try simp (disch := first | omega | (simp only [PL]; omega)) only [PS, P1, P2, P3, P4, P5, P6, P7, P8, PA, PB, PC, Nat.reduceAdd, Nat.reduceSub, Nat.reduceMul, Nat.reduceLeDiff, Nat.reduceEqDiff, Nat.succ_ne_self, reduceCtorEq, Int.reduceToNat, Int.cast_ofNat_Int, Int.reduceEq, Int.reduceNe, Int.reduceLT, Int.reduceLE]
    refine i_call H20 ⟨_, f, rfl, hvn.le hle5, ?_⟩
    try simp (disch := first | omega | (simp only [PL]; omega)) only [PS, P1, P2, P3, P4, P5, P6, P7, P8, PA, PB, PC, Nat.reduceAdd, Nat.reduceSub, Nat.reduceMul, Nat.reduceLeDiff, Nat.reduceEqDiff, Nat.succ_ne_self, reduceCtorEq, Int.reduceToNat, Int.cast_ofNat_Int, Int.reduceEq, Int.reduceNe, Int.reduceLT, Int.reduceLE]
    refine i_call H19 ⟨f.fault, f.fault, rfl, ?_⟩
    try simp (disch := first | omega | (simp only [PL]; omega)) only [PS, P1, P2, P3, P4, P5, P6, P7, P8, PA, PB, PC, Nat.reduceAdd, Nat.reduceSub, Nat.reduceMul, Nat.reduceLeDiff, Nat.reduceEqDiff, Nat.succ_ne_self, reduceCtorEq, Int.reduceToNat, Int.cast_ofNat_Int, Int.reduceEq, Int.reduceNe, Int.reduceLT, Int.reduceLE]
    refine i_call H19 ⟨f.fault, f.fault, rfl, ?_⟩
    try simp (disch := first | omega | (simp only [PL]; omega)) only [PS, P1, P2, P3, P4, P5, P6, P7, P8, PA, PB, PC, Nat.reduceAdd, Nat.reduceSub, Nat.reduceMul, Nat.reduceLeDiff, Nat.reduceEqDiff, Nat.succ_ne_self, reduceCtorEq, Int.reduceToNat, Int.cast_ofNat_Int, Int.reduceEq, Int.reduceNe, Int.reduceLT, Int.reduceLE]
    refine i_bslS FrR.enc 3 FrR.enc_len [⟨f.ty, v', f.warm⟩] (by simp [FrR.enc]) rfl (by simp [maxLen]) fun w1 h6 hle6 ho1 => ?_
    try simp (disch := first | omega | (simp only [PL]; omega)) only [PS, P1, P2, P3, P4, P5, P6, P7, P8, PA, PB, PC, Nat.reduceAdd, Nat.reduceSub, Nat.reduceMul, Nat.reduceLeDiff, Nat.reduceEqDiff, Nat.succ_ne_self, reduceCtorEq, Int.reduceToNat, Int.cast_ofNat_Int, Int.reduceEq, Int.reduceNe, Int.reduceLT, Int.reduceLE]
    refine i_bslS FrR.enc 3 FrR.enc_len [⟨f.ty, s, f.warm⟩] (by simp [FrR.enc]) rfl (by simp [maxLen]) fun w2 h7 hle7 ho2 => ?_
    try simp (disch := first | omega | (simp only [PL]; omega)) only [PS, P1, P2, P3, P4, P5, P6, P7, P8, PA, PB, PC, Nat.reduceAdd, Nat.reduceSub, Nat.reduceMul, Nat.reduceLeDiff, Nat.reduceEqDiff, Nat.succ_ne_self, reduceCtorEq, Int.reduceToNat, Int.cast_ofNat_Int, Int.reduceEq, Int.reduceNe, Int.reduceLT, Int.reduceLE]
    have hle47 := hle5.trans (hle6.trans hle7)
    have hr7 : f.reads.length < 2 ^ 62 := by omega
    refine i_call H21 ⟨w1, w2, [f], [f], rfl, ⟨_, (ho1.sl FrR.enc_len).le hle7, rfl, ?_⟩, ⟨_, ho2.sl FrR.enc_len, rfl, ?_⟩, by simp, by simpa using hr7, ?_⟩
    · intro i hi
      have : i = 0 := by simp at hi; omega
      subst this; exact ⟨rfl, rfl, hs4.le hle47⟩
    · intro i hi
      have : i = 0 := by simp at hi; omega
      subst this; exact ⟨rfl, rfl, hs.le (hle1.trans (hle4.trans hle47))⟩
    try simp (disch := first | omega | (simp only [PL]; omega)) only [PS, P1, P2, P3, P4, P5, P6, P7, P8, PA, PB, PC, Nat.reduceAdd, Nat.reduceSub, Nat.reduceMul, Nat.reduceLeDiff, Nat.reduceEqDiff, Nat.succ_ne_self, reduceCtorEq, Int.reduceToNat, Int.cast_ofNat_Int, Int.reduceEq, Int.reduceNe, Int.reduceLT, Int.reduceLE]
    by_cases hf : f.fault = 0
    · simp only [hf, if_true]
      try simp (disch := first | omega | (simp only [PL]; omega)) only [PS, P1, P2, P3, P4, P5, P6, P7, P8, PA, PB, PC, Nat.reduceAdd, Nat.reduceSub, Nat.reduceMul, Nat.reduceLeDiff, Nat.reduceEqDiff, Nat.succ_ne_self, reduceCtorEq, Int.reduceToNat, Int.cast_ofNat_Int, Int.reduceEq, Int.reduceNe, Int.reduceLT, Int.reduceLE]
      refine i_call H22 ⟨_, f, rfl, hvo.le hle47, hf, fun h8 hle8 => ?_⟩
      try simp (disch := first | omega | (simp only [PL]; omega)) only [PS, P1, P2, P3, P4, P5, P6, P7, P8, PA, PB, PC, Nat.reduceAdd, Nat.reduceSub, Nat.reduceMul, Nat.reduceLeDiff, Nat.reduceEqDiff, Nat.succ_ne_self, reduceCtorEq, Int.reduceToNat, Int.cast_ofNat_Int, Int.reduceEq, Int.reduceNe, Int.reduceLT, Int.reduceLE]
      exact hK h8 (hle1.trans (hle4.trans (hle47.trans hle8)))
    · have h0 : (0 : Int) < f.fault := by omega
      simp only [hf, if_false]
      try simp (disch := first | omega | (simp only [PL]; omega)) only [PS, P1, P2, P3, P4, P5, P6, P7, P8, PA, PB, PC, Nat.reduceAdd, Nat.reduceSub, Nat.reduceMul, Nat.reduceLeDiff, Nat.reduceEqDiff, Nat.succ_ne_self, reduceCtorEq, Int.reduceToNat, Int.cast_ofNat_Int, Int.reduceEq, Int.reduceNe, Int.reduceLT, Int.reduceLE, h0]
      exact hK h7 (hle1.trans (hle4.trans hle47))
  · refine i_alt ?_ ?_
    · try simp (disch := first | omega | (simp only [PL]; omega)) only [PS, P1, P2, P3, P4, P5, P6, P7, P8, PA, PB, PC, Nat.reduceAdd, Nat.reduceSub, Nat.reduceMul, Nat.reduceLeDiff, Nat.reduceEqDiff, Nat.succ_ne_self, reduceCtorEq, Int.reduceToNat, Int.cast_ofNat_Int, Int.reduceEq, Int.reduceNe, Int.reduceLT, Int.reduceLE, R]
      refine i_app Rd.enc_len Rd.enc_one (OwnS.nil (Heap.le.refl h1)) (hs.le hle1) (by simp only [List.length_nil]; omega) fun v2 h2 ho2 => ?_
      try simp (disch := first | omega | (simp only [PL]; omega)) only [PS, P1, P2, P3, P4, P5, P6, P7, P8, PA, PB, PC, Nat.reduceAdd, Nat.reduceSub, Nat.reduceMul, Nat.reduceLeDiff, Nat.reduceEqDiff, Nat.succ_ne_self, reduceCtorEq, Int.reduceToNat, Int.cast_ofNat_Int, Int.reduceEq, Int.reduceNe, Int.reduceLT, Int.reduceLE]
      refine i_le (le_one ho2.1) ?_
      try simp (disch := first | omega | (simp only [PL]; omega)) only [PS, P1, P2, P3, P4, P5, P6, P7, P8, PA, PB, PC, Nat.reduceAdd, Nat.reduceSub, Nat.reduceMul, Nat.reduceLeDiff, Nat.reduceEqDiff, Nat.succ_ne_self, reduceCtorEq, Int.reduceToNat, Int.cast_ofNat_Int, Int.reduceEq, Int.reduceNe, Int.reduceLT, Int.reduceLE]
      refine i_bslS Rd.enc 4 Rd.enc_len [⟨0, 0, 77, []⟩] rfl rfl (by simp [maxLen]) fun v3 h3 hle3 ho3 => ?_
      try simp (disch := first | omega | (simp only [PL]; omega)) only [PS, P1, P2, P3, P4, P5, P6, P7, P8, PA, PB, PC, Nat.reduceAdd, Nat.reduceSub, Nat.reduceMul, Nat.reduceLeDiff, Nat.reduceEqDiff, Nat.succ_ne_self, reduceCtorEq, Int.reduceToNat, Int.cast_ofNat_Int, Int.reduceEq, Int.reduceNe, Int.reduceLT, Int.reduceLE]
      refine i_le (le_one (ho2.1.trans hle3)) ?_
      try simp (disch := first | omega | (simp only [PL]; omega)) only [PS, P1, P2, P3, P4, P5, P6, P7, P8, PA, PB, PC, Nat.reduceAdd, Nat.reduceSub, Nat.reduceMul, Nat.reduceLeDiff, Nat.reduceEqDiff, Nat.succ_ne_self, reduceCtorEq, Int.reduceToNat, Int.cast_ofNat_Int, Int.reduceEq, Int.reduceNe, Int.reduceLT, Int.reduceLE]
      refine i_app Rd.enc_len Rd.enc_one (ho2.le hle3) (ho3.sl Rd.enc_len) (by simp only [List.nil_append, List.length_cons, List.length_nil]; omega) fun v4 h4 ho4 => ?_
      have hle4 := ho4.1
      obtain ⟨v', e1, hs'⟩ := OwnS.pre Rd.enc_len (l := f.reads) (l' := [(⟨0, 0, 77, []⟩ : Rd)]) ho4
      try simp (disch := first | omega | (simp only [PL]; omega)) only [PS, P1, P2, P3, P4, P5, P6, P7, P8, PA, PB, PC, Nat.reduceAdd, Nat.reduceSub, Nat.reduceMul, Nat.reduceLeDiff, Nat.reduceEqDiff, Nat.succ_ne_self, reduceCtorEq, Int.reduceToNat, Int.cast_ofNat_Int, Int.reduceEq, Int.reduceNe, Int.reduceLT, Int.reduceLE]
      refine i_le (le_one hle4) ?_
      try simp (disch := first | omega | (simp only [PL]; omega)) only [PS, P1, P2, P3, P4, P5, P6, P7, P8, PA, PB, PC, Nat.reduceAdd, Nat.reduceSub, Nat.reduceMul, Nat.reduceLeDiff, Nat.reduceEqDiff, Nat.succ_ne_self, reduceCtorEq, Int.reduceToNat, Int.cast_ofNat_Int, Int.reduceEq, Int.reduceNe, Int.reduceLT, Int.reduceLE, e1, hs'.one]
      exact k_meet _ (by try simp only [Pe, and_true, true_and, and_self]) ⟨v', hle4, hs', rfl⟩
    · try simp (disch := first | omega | (simp only [PL]; omega)) only [PS, P1, P2, P3, P4, P5, P6, P7, P8, PA, PB, PC, Nat.reduceAdd, Nat.reduceSub, Nat.reduceMul, Nat.reduceLeDiff, Nat.reduceEqDiff, Nat.succ_ne_self, reduceCtorEq, Int.reduceToNat, Int.cast_ofNat_Int, Int.reduceEq, Int.reduceNe, Int.reduceLT, Int.reduceLE, R]
      refine i_bslS Rd.enc 4 Rd.enc_len [⟨0, 0, 77, []⟩] rfl rfl (by simp [maxLen]) fun v3 h3 hle3 ho3 => ?_
      try simp (disch := first | omega | (simp only [PL]; omega)) only [PS, P1, P2, P3, P4, P5, P6, P7, P8, PA, PB, PC, Nat.reduceAdd, Nat.reduceSub, Nat.reduceMul, Nat.reduceLeDiff, Nat.reduceEqDiff, Nat.succ_ne_self, reduceCtorEq, Int.reduceToNat, Int.cast_ofNat_Int, Int.reduceEq, Int.reduceNe, Int.reduceLT, Int.reduceLE]
      refine i_le (le_one hle3) ?_
      try simp (disch := first | omega | (simp only [PL]; omega)) only [PS, P1, P2, P3, P4, P5, P6, P7, P8, PA, PB, PC, Nat.reduceAdd, Nat.reduceSub, Nat.reduceMul, Nat.reduceLeDiff, Nat.reduceEqDiff, Nat.succ_ne_self, reduceCtorEq, Int.reduceToNat, Int.cast_ofNat_Int, Int.reduceEq, Int.reduceNe, Int.reduceLT, Int.reduceLE]
      refine i_app Rd.enc_len Rd.enc_one (OwnS.nil (Heap.le.refl h3)) ((hs.le hle1).le hle3) (by simp only [List.length_nil]; omega) fun v2 h2 ho2 => ?_
      try simp (disch := first | omega | (simp only [PL]; omega)) only [PS, P1, P2, P3, P4, P5, P6, P7, P8, PA, PB, PC, Nat.reduceAdd, Nat.reduceSub, Nat.reduceMul, Nat.reduceLeDiff, Nat.reduceEqDiff, Nat.succ_ne_self, reduceCtorEq, Int.reduceToNat, Int.cast_ofNat_Int, Int.reduceEq, Int.reduceNe, Int.reduceLT, Int.reduceLE]
      refine i_le (le_one (hle3.trans ho2.1)) ?_
      try simp (disch := first | omega | (simp only [PL]; omega)) only [PS, P1, P2, P3, P4, P5, P6, P7, P8, PA, PB, PC, Nat.reduceAdd, Nat.reduceSub, Nat.reduceMul, Nat.reduceLeDiff, Nat.reduceEqDiff, Nat.succ_ne_self, reduceCtorEq, Int.reduceToNat, Int.cast_ofNat_Int, Int.reduceEq, Int.reduceNe, Int.reduceLT, Int.reduceLE]
      refine i_app Rd.enc_len Rd.enc_one (ho2.base hle3) ((ho3.sl Rd.enc_len).le ho2.1) (by simp only [List.nil_append, List.length_cons, List.length_nil]; omega) fun v4 h4 ho4 => ?_
      have hle4 := ho4.1
      obtain ⟨v', e1, hs'⟩ := OwnS.pre Rd.enc_len (l := f.reads) (l' := [(⟨0, 0, 77, []⟩ : Rd)]) ho4
      try simp (disch := first | omega | (simp only [PL]; omega)) only [PS, P1, P2, P3, P4, P5, P6, P7, P8, PA, PB, PC, Nat.reduceAdd, Nat.reduceSub, Nat.reduceMul, Nat.reduceLeDiff, Nat.reduceEqDiff, Nat.succ_ne_self, reduceCtorEq, Int.reduceToNat, Int.cast_ofNat_Int, Int.reduceEq, Int.reduceNe, Int.reduceLT, Int.reduceLE]
      refine i_le (le_one hle4) ?_
      try simp (disch := first | omega | (simp only [PL]; omega)) only [PS, P1, P2, P3, P4, P5, P6, P7, P8, PA, PB, PC, Nat.reduceAdd, Nat.reduceSub, Nat.reduceMul, Nat.reduceLeDiff, Nat.reduceEqDiff, Nat.succ_ne_self, reduceCtorEq, Int.reduceToNat, Int.cast_ofNat_Int, Int.reduceEq, Int.reduceNe, Int.reduceLT, Int.reduceLE, e1, hs'.one]
      exact k_meet _ (by try simp only [Pe, and_true, true_and, and_self]) ⟨v', hle4, hs', rfl⟩
end Go.Cw
namespace Go.Cw
open Go
theorem feed_ok : ∀ (n : Nat) (s : List UInt8), s.length ≤ n → (feed s).2.1.length ≤ 47 ∧ (feed s).2.2 + (feed s).2.1.length + 4 * (feed s).1.length ≤ s.length ∧ ∀ f ∈ (feed s).1, f.fault = 0 := by
  intro n
  induction n with
  | zero =>
    intro s h
    have : s = [] := List.eq_nil_of_length_eq_zero (by omega)
    subst this; simp [feed_nil]
  | succ n ih =>
    intro s h
    by_cases hs : s = []
    · subst hs; simp [feed_nil]
    have hp : 0 < s.length := List.length_pos_iff.2 hs
    rw [feed_cons hs]
    cases hf : fAt s with
    | none =>
      simp only
      split
      · rename_i hb
        refine ⟨?_, by simp, by simp⟩
        unfold begins at hb
        split at hb <;> simp only <;> omega
      · have := ih (s.drop 1) (by rw [List.length_drop]; omega)
        rw [List.length_drop] at this
        refine ⟨this.1, ?_, this.2.2⟩
        simp only; omega
    | some p =>
      obtain ⟨f, k⟩ := p
      have hk := fAt_pos hf
      have := ih (s.drop k) (by rw [List.length_drop]; omega)
      rw [List.length_drop] at this
      refine ⟨this.1, ?_, ?_⟩
      · simp only [List.length_cons]; omega
      · intro g hg
        simp only [List.mem_cons] at hg
        rcases hg with rfl | hg
        · exact hk.2.2.2.1
        · exact this.2.2 g hg
theorem feed_reads {s : List UInt8} : ∀ f ∈ (feed s).1, f.reads.length < 2 ^ 62 := by
  intro f hf
  have := Fr.fine ((feed_ok _ s (Nat.le_refl _)).2.2 f hf)
  omega

def encS (s : List UInt8) : List Value := [.string (str s)]
def S5 : Spec := fun args h K => ∃ v l, args = [v] ∧ Sl encS h v l ∧ ∀ h', Heap.le h h' → K (.bool true) h'
end Go.Cw
namespace Go.Cw
open Go
/-- two lines of their own -/
structure Two (h0 h : Heap) (an am : Addr) (rest : List UInt8) (lost : Nat) : Prop where
  le : Heap.le h0 h
  n0 : h0 an.block = none
  m0 : h0 am.block = none
  ne : an.block ≠ am.block
  n : LineAt h an rest lost
  m : LineAt h am rest lost

theorem objAt.dom {h : Heap} {a : Addr} {cs : List Value} (ho : objAt h a cs) : ∃ o, h a.block = some o := by obtain ⟨_, c, t, h5, _⟩ := ho; exact ⟨_, h5⟩
theorem keeps.obj {a : Addr} {n : Nat} {h h' : Heap} (k : keeps a n h h') {b : Addr} {cs : List Value} (ho : objAt h b cs) (hn : b.block ≠ a.block) : objAt h' b cs := by
  obtain ⟨h1, c, t, h2, h3, h4⟩ := ho
  exact ⟨h1, c, t, k.1 _ _ hn h2, h3, h4⟩
theorem ne_of_fresh {h h' : Heap} {b : Nat} {cs : List Value} {a : Addr} (ho : objAt (fr h h') a cs) {o : Obj} (hb : h b = some o) : a.block ≠ b := by
  obtain ⟨_, c, t, h2, _⟩ := ho
  intro e; rw [e] at h2; simp [fr, hb] at h2

theorem F5_ok {N : Num} {Γ : Ctx} [GoodC Γ] (H16 : Sat STrue (Γ 16)) (H23 : Sat S23 (Γ 23)) (H24 : Sat S24 (Γ 24)) (H25 : Sat S24 (Γ 25)) (H21 : Sat S21 (Γ 21)) (H26 : Sat S26 (Γ 26)) (H27 : Sat S27 (Γ 27)) : Sat S5 (SF N Γ F5) := by
  rintro _ h K ⟨v, l, rfl, hs, hK⟩
  refine i_fun rfl ?_
  simp only [F5, env0, List.map, List.length, List.replicate, List.cons_append, List.nil_append, Nat.reduceSub, Nat.reduceAdd]
  try simp (disch := first | omega | (simp only [PL]; omega)) only [PS, P1, P2, P3, P4, P5, P6, P7, P8, PA, PB, PC, Nat.reduceAdd, Nat.reduceSub, Nat.reduceMul, Nat.reduceLeDiff, Nat.reduceEqDiff, Nat.succ_ne_self, reduceCtorEq, Int.reduceToNat, Int.cast_ofNat_Int, Int.reduceEq, Int.reduceNe, Int.reduceLT, Int.reduceLE]
  refine i_call H16 ⟨rfl, fun h1 hle1 => ?_⟩
  have R := (hs.le hle1).rules1 (fun s => .string (str s)) (fun _ => rfl) []
  try simp (disch := first | omega | (simp only [PL]; omega)) only [PS, P1, P2, P3, P4, P5, P6, P7, P8, PA, PB, PC, Nat.reduceAdd, Nat.reduceSub, Nat.reduceMul, Nat.reduceLeDiff, Nat.reduceEqDiff, Nat.succ_ne_self, reduceCtorEq, Int.reduceToNat, Int.cast_ofNat_Int, Int.reduceEq, Int.reduceNe, Int.reduceLT, Int.reduceLE, R]
  refine i_cond (fun c1 => ?_) (fun c1 => ?_)
  · try simp (disch := first | omega | (simp only [PL]; omega)) only [PS, P1, P2, P3, P4, P5, P6, P7, P8, PA, PB, PC, Nat.reduceAdd, Nat.reduceSub, Nat.reduceMul, Nat.reduceLeDiff, Nat.reduceEqDiff, Nat.succ_ne_self, reduceCtorEq, Int.reduceToNat, Int.cast_ofNat_Int, Int.reduceEq, Int.reduceNe, Int.reduceLT, Int.reduceLE]
    exact hK h1 hle1
  try simp (disch := first | omega | (simp only [PL]; omega)) only [PS, P1, P2, P3, P4, P5, P6, P7, P8, PA, PB, PC, Nat.reduceAdd, Nat.reduceSub, Nat.reduceMul, Nat.reduceLeDiff, Nat.reduceEqDiff, Nat.succ_ne_self, reduceCtorEq, Int.reduceToNat, Int.cast_ofNat_Int, Int.reduceEq, Int.reduceNe, Int.reduceLT, Int.reduceLE]
  refine i_newO fun bn h2 hle2 hb2 hn => ?_
  try simp (disch := first | omega | (simp only [PL]; omega)) only [PS, P1, P2, P3, P4, P5, P6, P7, P8, PA, PB, PC, Nat.reduceAdd, Nat.reduceSub, Nat.reduceMul, Nat.reduceLeDiff, Nat.reduceEqDiff, Nat.succ_ne_self, reduceCtorEq, Int.reduceToNat, Int.cast_ofNat_Int, Int.reduceEq, Int.reduceNe, Int.reduceLT, Int.reduceLE]
  refine i_newO fun bm h3 hle3 hb3 hm => ?_
  try simp (disch := first | omega | (simp only [PL]; omega)) only [PS, P1, P2, P3, P4, P5, P6, P7, P8, PA, PB, PC, Nat.reduceAdd, Nat.reduceSub, Nat.reduceMul, Nat.reduceLeDiff, Nat.reduceEqDiff, Nat.succ_ne_self, reduceCtorEq, Int.reduceToNat, Int.cast_ofNat_Int, Int.reduceEq, Int.reduceNe, Int.reduceLT, Int.reduceLE]
  have hn2 : LineAt h2 ⟨bn, 0, none⟩ [] 0 := objAt.le hn (fr_le h1 h2)
  have hn3 : LineAt h3 ⟨bn, 0, none⟩ [] 0 := objAt.le hn2 hle3
  have hm3 : LineAt h3 ⟨bm, 0, none⟩ [] 0 := objAt.le hm (fr_le h2 h3)
  obtain ⟨o2, ho2⟩ := hn2.dom
  refine i_loop (fun (p : Nat × Addr × Addr × List UInt8 × Nat) => [some v, none, none, some (.pointer (some p.2.1)), some (.pointer (some p.2.2.1)), some (.int .i64 p.1), none, none, none, none, none, none, none, none, none, none, none, none, none, none, none, none, none, none, none, none, none, none])
    (fun p h' => p.1 ≤ l.length ∧ Two h1 h' p.2.1 p.2.2.1 p.2.2.2.1 p.2.2.2.2 ∧ p.2.2.2.1.length ≤ 47 ∧ p.2.2.2.2 ≤ p.1 * 1000) (fun p => l.length - p.1) (0, ⟨bn, 0, none⟩, ⟨bm, 0, none⟩, [], 0) (by try simp only [Pe, and_true, true_and, and_self]; rfl)
    ⟨by simp, ⟨hle2.trans hle3, hb2, le_none hle2 bm hb3, (fun e => by dsimp only at e ho2; rw [e, hb3] at ho2; cases ho2), hn3, hm3⟩, by simp, by simp⟩ ?_
  rintro ⟨i, an, am, rest, lost⟩ h4 ⟨hi, hT, hr, hlo⟩
  dsimp only at hi hT hr hlo
  have R4 := (hs.le (hle1.trans hT.le)).rules1 (fun s => .string (str s)) (fun _ => rfl) []
  try simp (disch := first | omega | (simp only [PL]; omega)) only [PS, P1, P2, P3, P4, P5, P6, P7, P8, PA, PB, PC, Nat.reduceAdd, Nat.reduceSub, Nat.reduceMul, Nat.reduceLeDiff, Nat.reduceEqDiff, Nat.succ_ne_self, reduceCtorEq, Int.reduceToNat, Int.cast_ofNat_Int, Int.reduceEq, Int.reduceNe, Int.reduceLT, Int.reduceLE, R4]
  refine i_cond (fun c2 => ?_) (fun c2 => ?_)
  rotate_left
  · try simp (disch := first | omega | (simp only [PL]; omega)) only [PS, P1, P2, P3, P4, P5, P6, P7, P8, PA, PB, PC, Nat.reduceAdd, Nat.reduceSub, Nat.reduceMul, Nat.reduceLeDiff, Nat.reduceEqDiff, Nat.succ_ne_self, reduceCtorEq, Int.reduceToNat, Int.cast_ofNat_Int, Int.reduceEq, Int.reduceNe, Int.reduceLT, Int.reduceLE]
    exact hK h4 (hle1.trans hT.le)
  try simp (disch := first | omega | (simp only [PL]; omega)) only [PS, P1, P2, P3, P4, P5, P6, P7, P8, PA, PB, PC, Nat.reduceAdd, Nat.reduceSub, Nat.reduceMul, Nat.reduceLeDiff, Nat.reduceEqDiff, Nat.succ_ne_self, reduceCtorEq, Int.reduceToNat, Int.cast_ofNat_Int, Int.reduceEq, Int.reduceNe, Int.reduceLT, Int.reduceLE, R4]
  refine i_cond (fun c3 => ?_) (fun c3 => ?_)
  · try simp (disch := first | omega | (simp only [PL]; omega)) only [PS, P1, P2, P3, P4, P5, P6, P7, P8, PA, PB, PC, Nat.reduceAdd, Nat.reduceSub, Nat.reduceMul, Nat.reduceLeDiff, Nat.reduceEqDiff, Nat.succ_ne_self, reduceCtorEq, Int.reduceToNat, Int.cast_ofNat_Int, Int.reduceEq, Int.reduceNe, Int.reduceLT, Int.reduceLE]
    exact hK h4 (hle1.trans hT.le)
  try simp (disch := first | omega | (simp only [PL]; omega)) only [PS, P1, P2, P3, P4, P5, P6, P7, P8, PA, PB, PC, Nat.reduceAdd, Nat.reduceSub, Nat.reduceMul, Nat.reduceLeDiff, Nat.reduceEqDiff, Nat.succ_ne_self, reduceCtorEq, Int.reduceToNat, Int.cast_ofNat_Int, Int.reduceEq, Int.reduceNe, Int.reduceLT, Int.reduceLE]
  -- perhaps a copy takes the line's place
  refine i_meet_cond (fun env h5 => ∃ an', Two h1 h5 an' am rest lost ∧ env = [some v, none, none, some (.pointer (some an')), some (.pointer (some am)), some (.int .i64 i), none, none, none, none, none, none, none, none, none, none, none, none, none, none, none, none, none, none, none, none, none, none]) ?_ ?_
  · rintro env h5 ⟨an, hT, rfl⟩
    have R5 := (hs.le (hle1.trans hT.le)).rules1 (fun s => .string (str s)) (fun _ => rfl) []
    have hli : i < l.length := by omega
    try simp (disch := first | omega | (simp only [PL]; omega)) only [PS, P1, P2, P3, P4, P5, P6, P7, P8, PA, PB, PC, Nat.reduceAdd, Nat.reduceSub, Nat.reduceMul, Nat.reduceLeDiff, Nat.reduceEqDiff, Nat.succ_ne_self, reduceCtorEq, Int.reduceToNat, Int.cast_ofNat_Int, Int.reduceEq, Int.reduceNe, Int.reduceLT, Int.reduceLE, R5]
    refine i_call H24 ⟨an, rest, lost, l.getD i [], rfl, hT.n, by omega, by omega, fun f h6 k1 k2 k3 => ?_⟩
    have hle6 : Heap.le h1 h6 := k1.le hT.le hT.n0
    have hm6 := k1.obj hT.m (fun e => hT.ne e.symm)
    have R6 := (hs.le (hle1.trans hle6)).rules1 (fun s => .string (str s)) (fun _ => rfl) []
    try simp (disch := first | omega | (simp only [PL]; omega)) only [PS, P1, P2, P3, P4, P5, P6, P7, P8, PA, PB, PC, Nat.reduceAdd, Nat.reduceSub, Nat.reduceMul, Nat.reduceLeDiff, Nat.reduceEqDiff, Nat.succ_ne_self, reduceCtorEq, Int.reduceToNat, Int.cast_ofNat_Int, Int.reduceEq, Int.reduceNe, Int.reduceLT, Int.reduceLE, R6]
    refine i_call H25 ⟨am, rest, lost, l.getD i [], rfl, hm6, by omega, by omega, fun g h7 k4 k5 k6 => ?_⟩
    have hle7 : Heap.le h1 h7 := k4.le hle6 hT.m0
    have hn7 := k4.obj k2 hT.ne
    obtain ⟨om, hom⟩ := hT.m.dom
    have k3' := k3.le (k4.le (fr_le h5 h6) (by simp [fr, hom]))
    have k6' := k6.le (fr_le h6 h7)
    have hfo := feed_ok _ (rest ++ l.getD i []) (Nat.le_refl _)
    rw [List.length_append] at hfo
    try simp (disch := first | omega | (simp only [PL]; omega)) only [PS, P1, P2, P3, P4, P5, P6, P7, P8, PA, PB, PC, Nat.reduceAdd, Nat.reduceSub, Nat.reduceMul, Nat.reduceLeDiff, Nat.reduceEqDiff, Nat.succ_ne_self, reduceCtorEq, Int.reduceToNat, Int.cast_ofNat_Int, Int.reduceEq, Int.reduceNe, Int.reduceLT, Int.reduceLE]
    refine i_call H21 ⟨f, g, _, _, rfl, k3', k6', by omega, feed_reads, ?_⟩
    try simp (disch := first | omega | (simp only [PL]; omega)) only [PS, P1, P2, P3, P4, P5, P6, P7, P8, PA, PB, PC, Nat.reduceAdd, Nat.reduceSub, Nat.reduceMul, Nat.reduceLeDiff, Nat.reduceEqDiff, Nat.succ_ne_self, reduceCtorEq, Int.reduceToNat, Int.cast_ofNat_Int, Int.reduceEq, Int.reduceNe, Int.reduceLT, Int.reduceLE, k5.rules]
    refine i_call H26 ⟨_, _, _, rfl, hn7, ?_⟩
    try simp (disch := first | omega | (simp only [PL]; omega)) only [PS, P1, P2, P3, P4, P5, P6, P7, P8, PA, PB, PC, Nat.reduceAdd, Nat.reduceSub, Nat.reduceMul, Nat.reduceLeDiff, Nat.reduceEqDiff, Nat.succ_ne_self, reduceCtorEq, Int.reduceToNat, Int.cast_ofNat_Int, Int.reduceEq, Int.reduceNe, Int.reduceLT, Int.reduceLE]
    refine i_le (le_one (Heap.le.refl _)) ?_
    try simp (disch := first | omega | (simp only [PL]; omega)) only [PS, P1, P2, P3, P4, P5, P6, P7, P8, PA, PB, PC, Nat.reduceAdd, Nat.reduceSub, Nat.reduceMul, Nat.reduceLeDiff, Nat.reduceEqDiff, Nat.succ_ne_self, reduceCtorEq, Int.reduceToNat, Int.cast_ofNat_Int, Int.reduceEq, Int.reduceNe, Int.reduceLT, Int.reduceLE, k5.rules]
    refine i_call H27 ⟨_, _, _, rfl, hn7, ?_⟩
    try simp (disch := first | omega | (simp only [PL]; omega)) only [PS, P1, P2, P3, P4, P5, P6, P7, P8, PA, PB, PC, Nat.reduceAdd, Nat.reduceSub, Nat.reduceMul, Nat.reduceLeDiff, Nat.reduceEqDiff, Nat.succ_ne_self, reduceCtorEq, Int.reduceToNat, Int.cast_ofNat_Int, Int.reduceEq, Int.reduceNe, Int.reduceLT, Int.reduceLE]
    refine i_le (le_two (Heap.le.refl _) (Heap.le.refl _)) ?_
    try simp (disch := first | omega | (simp only [PL]; omega)) only [PS, P1, P2, P3, P4, P5, P6, P7, P8, PA, PB, PC, Nat.reduceAdd, Nat.reduceSub, Nat.reduceMul, Nat.reduceLeDiff, Nat.reduceEqDiff, Nat.succ_ne_self, reduceCtorEq, Int.reduceToNat, Int.cast_ofNat_Int, Int.reduceEq, Int.reduceNe, Int.reduceLT, Int.reduceLE]
    refine k_loop (i + 1, an, am, _, _) (by dsimp only; omega) (by try simp only [Pe, and_true, true_and, and_self]) ⟨by dsimp only; omega, ⟨hle7, hT.n0, hT.m0, hT.ne, hn7, k5⟩, hfo.1, ?_⟩
    dsimp only
    omega
  · refine i_cond (fun c4 => ?_) (fun c4 => ?_)
    · try simp (disch := first | omega | (simp only [PL]; omega)) only [PS, P1, P2, P3, P4, P5, P6, P7, P8, PA, PB, PC, Nat.reduceAdd, Nat.reduceSub, Nat.reduceMul, Nat.reduceLeDiff, Nat.reduceEqDiff, Nat.succ_ne_self, reduceCtorEq, Int.reduceToNat, Int.cast_ofNat_Int, Int.reduceEq, Int.reduceNe, Int.reduceLT, Int.reduceLE]
      refine i_call H23 ⟨an, rest, lost, rfl, hT.n, fun b h5 hle5 hb5 hc => ?_⟩
      try simp (disch := first | omega | (simp only [PL]; omega)) only [PS, P1, P2, P3, P4, P5, P6, P7, P8, PA, PB, PC, Nat.reduceAdd, Nat.reduceSub, Nat.reduceMul, Nat.reduceLeDiff, Nat.reduceEqDiff, Nat.succ_ne_self, reduceCtorEq, Int.reduceToNat, Int.cast_ofNat_Int, Int.reduceEq, Int.reduceNe, Int.reduceLT, Int.reduceLE]
      have hn5 : LineAt h5 an rest lost := objAt.le hT.n hle5
      refine i_call H24 ⟨an, rest, lost, [111, 116, 104, 101, 114], rfl, hn5, by simp; omega, by omega, fun f h6 k1 k2 k3 => ?_⟩
      have hc5 := objAt.le hc (fr_le h4 h5)
      obtain ⟨on, hon⟩ := hT.n.dom
      obtain ⟨om, hom⟩ := hT.m.dom
      have ebn := ne_of_fresh hc hon
      have ebm := ne_of_fresh hc hom
      try simp (disch := first | omega | (simp only [PL]; omega)) only [PS, P1, P2, P3, P4, P5, P6, P7, P8, PA, PB, PC, Nat.reduceAdd, Nat.reduceSub, Nat.reduceMul, Nat.reduceLeDiff, Nat.reduceEqDiff, Nat.succ_ne_self, reduceCtorEq, Int.reduceToNat, Int.cast_ofNat_Int, Int.reduceEq, Int.reduceNe, Int.reduceLT, Int.reduceLE]
      refine k_meet _ ?_ ⟨⟨b, 0, none⟩, ⟨k1.le (hT.le.trans hle5) hT.n0, le_none hT.le b hb5, hT.m0, ebm, k1.obj hc5 ebn, k1.obj (objAt.le hT.m hle5) (fun e => hT.ne e.symm)⟩, rfl⟩
      try simp only [Pe, and_true, true_and, and_self]
    · try simp (disch := first | omega | (simp only [PL]; omega)) only [PS, P1, P2, P3, P4, P5, P6, P7, P8, PA, PB, PC, Nat.reduceAdd, Nat.reduceSub, Nat.reduceMul, Nat.reduceLeDiff, Nat.reduceEqDiff, Nat.succ_ne_self, reduceCtorEq, Int.reduceToNat, Int.cast_ofNat_Int, Int.reduceEq, Int.reduceNe, Int.reduceLT, Int.reduceLE]
      refine k_meet _ ?_ ⟨an, hT, rfl⟩
      try simp only [Pe, and_true, true_and, and_self]
end Go.Cw
/- From a row's data to what lies in memory. -/
namespace Go.Cw
open Go

inductive Ty where
  | int | str | bool | nil
  | cons (a b : Ty)
  | sl (e : Ty)
  deriving DecidableEq
def Ty.size : Ty → Nat
  | .int | .str | .bool | .sl _ => 1
  | .nil => 0
  | .cons a b => a.size + b.size

/-- all that lies in memory -/
def full (w : World) : Heap := fun b => w.heap[b]?
theorem full_sub (w : World) : (full w).sub w := fun _ _ h => h

def Mat (w : World) : Ty → List Value → Prop
  | .int, cs => ∃ n, cs = [.int .i64 n] ∧ (Lit.int .i64 n).wf = true
  | .str, cs => ∃ s, cs = [.string s] ∧ s.size ≤ maxLen
  | .bool, cs => ∃ b, cs = [.bool b]
  | .nil, cs => cs = []
  | .cons a b, cs => ∃ x y, cs = x ++ y ∧ Mat w a x ∧ Mat w b y
  | .sl e, cs => ∃ a n cap, cs = [.slice a n cap] ∧ n ≤ cap ∧ cap ≤ maxLen ∧ (n = 0 ∨ ∃ g, a = some g ∧ ∃ rows : List (List Value), rows.length = n ∧ rowAt (full w) g rows.flatten ∧ ∀ r ∈ rows, Mat w e r)

def chkFs (P : Program) (chk : TypeId → Ty → Bool) : List Field → Nat → Ty → Bool
  | [], _, .nil => true
  | f :: r, off, .cons a b => f.offset == off && P.cellsOf f.type == a.size && chk f.type a && chkFs P chk r (off + a.size) b
  | _, _, _ => false
def chkAr (P : Program) (chk : TypeId → Ty → Bool) (e : TypeId) : Nat → Ty → Bool
  | 0, .nil => true
  | n + 1, .cons a b => P.cellsOf e == a.size && chk e a && chkAr P chk e n b
  | _, _ => false
/-- is a type laid so? -/
def chk (P : Program) : Nat → TypeId → Ty → Bool
  | 0, _, _ => false
  | n + 1, t, ty =>
    match P.underlying t with
    | some (.int .i64) => ty == .int
    | some .string => ty == .str
    | some .bool => ty == .bool
    | some (.slice e) =>
      match ty with
      | .sl x => P.cellsOf e == x.size && decide (0 < x.size) && chk P n e x
      | _ => false
    | some (.struct fs) => P.cellsOf t == ty.size && chkFs P (chk P n) fs.toList 0 ty
    | some (.array k e) => P.cellsOf t == ty.size && chkAr P (chk P n) e k ty
    | _ => false

theorem mapM_some {α β : Type} {f : α → Option β} : ∀ {l : List α} {r : List β}, l.mapM f = some r → r.length = l.length ∧ ∀ i (h : i < l.length) (h' : i < r.length), f l[i] = some r[i] := by
  intro l
  induction l with
  | nil => intro r h; simp at h; subst h; simp
  | cons a l ih =>
    intro r h
    simp only [List.mapM_cons, Option.bind_eq_bind, Option.bind_eq_some_iff, Option.pure_def, Option.some.injEq] at h
    obtain ⟨y, h1, ys, h2, rfl⟩ := h
    obtain ⟨h3, h4⟩ := ih h2
    refine ⟨by simp [h3], fun i hi hi' => ?_⟩
    cases i with
    | zero => simpa using h1
    | succ i => simpa using h4 i (by simpa using hi) (by simpa using hi')

theorem cells_row {w : World} {a : Addr} {n : Nat} {cs : List Value} (h : w.cells? 0 a n = some cs) (hn : 0 < n) : cs.length = n ∧ a.spot = none ∧ ∀ i (hi : i < cs.length), w.cell? (a.add i) = some cs[i] := by
  simp only [World.cells?, Nat.zero_le, if_true] at h
  obtain ⟨h1, h2⟩ := mapM_some h
  have hl : cs.length = n := by simpa using h1
  refine ⟨hl, ?_, fun i hi => ?_⟩
  · have h3 := h2 0 (by simpa using hn) (by omega)
    simp only [List.getElem_range, addr_zero] at h3
    exact World.cell?_spot h3
  · have := h2 i (by simpa using by omega) hi
    simpa using this

theorem row_of_cells {w : World} {a : Addr} {cs : List Value} (hs : a.spot = none) (h : ∀ i (hi : i < cs.length), w.cell? (a.add i) = some cs[i]) (hne : cs ≠ []) : rowAt (full w) a cs := by
  have hb : ∀ i (hi : i < cs.length), ∃ c t fz, w.heap[a.block]? = some (.cells c t fz) ∧ c[a.off + i]? = some cs[i] := by
    intro i hi
    have h1 := h i hi
    rw [addr_add' a hs] at h1
    simp only [World.cell?] at h1
    split at h1
    · rename_i c t fz hh; exact ⟨c, t, fz, hh, by simpa using h1⟩
    · cases h1
  have hl : 0 < cs.length := List.length_pos_iff.2 hne
  obtain ⟨c, t, fz, h1, _⟩ := hb 0 hl
  refine ⟨hs, c, t, fz, h1, ?_, ?_⟩
  · obtain ⟨c', t', fz', h2, h3⟩ := hb (cs.length - 1) (by omega)
    rw [h1] at h2; cases h2
    have := (Array.getElem?_eq_some_iff.1 h3).1
    omega
  · intro i hi
    obtain ⟨c', t', fz', h2, h3⟩ := hb i hi
    rw [h1] at h2; cases h2
    rw [h3, List.getElem?_eq_getElem hi]

variable {H : Type} {enc : TypeId × Value → H} {P : Program} {w : World}

theorem mat_size : ∀ (ty : Ty) (cs : List Value), Mat w ty cs → cs.length = ty.size := by
  intro ty
  induction ty with
  | int => rintro _ ⟨n, rfl, _⟩; rfl
  | str => rintro _ ⟨n, rfl, _⟩; rfl
  | bool => rintro _ ⟨n, rfl⟩; rfl
  | nil => rintro _ rfl; rfl
  | cons a b iha ihb => rintro _ ⟨x, y, rfl, h1, h2⟩; simp [iha _ h1, ihb _ h2, Ty.size]
  | sl e _ => rintro _ ⟨a, n, cap, rfl, _⟩; rfl

theorem mat_fs {n : Nat} (ih : ∀ (t : TypeId) (ty : Ty) (fuel : Nat) (cs : List Value) (x : DataW H × List MemPlace), chk P n t ty = true → DataW.trod enc P w 0 (fun _ => true) true fuel t cs = some x → Mat w ty cs) (fuel : Nat) (cs : List Value) :
    ∀ (fs : List Field) (off : Nat) (ty : Ty), chkFs P (chk P n) fs off ty = true → cs.length = off + ty.size →
      (∀ f ∈ fs, ∃ x, DataW.trod enc P w 0 (fun _ => true) true fuel f.type ((cs.drop f.offset).take (P.cellsOf f.type)) = some x) → Mat w ty (cs.drop off) := by
  intro fs
  induction fs with
  | nil =>
    intro off ty h1 h2 _
    cases ty <;> simp [chkFs] at h1
    simp only [Ty.size] at h2
    show cs.drop off = []
    exact List.drop_eq_nil_of_le (by omega)
  | cons f r ihr =>
    intro off ty h1 h2 h3
    cases ty with
    | cons a b =>
      simp only [chkFs, Bool.and_eq_true, beq_iff_eq] at h1
      obtain ⟨⟨⟨e1, e2⟩, e3⟩, e4⟩ := h1
      obtain ⟨y, h5⟩ := h3 f (by simp)
      simp only [Ty.size] at h2
      refine ⟨(cs.drop off).take a.size, cs.drop (off + a.size), ?_, ?_, ?_⟩
      · rw [← List.drop_drop, List.take_append_drop]
      · rw [e1, e2] at h5; exact ih _ _ _ _ _ e3 h5
      · exact ihr _ _ e4 (by omega) fun g hg => h3 g (by simp [hg])
    | _ => simp [chkFs] at h1

theorem mat_ar {n : Nat} (ih : ∀ (t : TypeId) (ty : Ty) (fuel : Nat) (cs : List Value) (x : DataW H × List MemPlace), chk P n t ty = true → DataW.trod enc P w 0 (fun _ => true) true fuel t cs = some x → Mat w ty cs) (fuel : Nat) (cs : List Value) (e : TypeId) :
    ∀ (k i : Nat) (ty : Ty), chkAr P (chk P n) e k ty = true → cs.length = i * P.cellsOf e + ty.size →
      (∀ j, j < k → ∃ x, DataW.trod enc P w 0 (fun _ => true) true fuel e ((cs.drop ((i + j) * P.cellsOf e)).take (P.cellsOf e)) = some x) → Mat w ty (cs.drop (i * P.cellsOf e)) := by
  intro k
  induction k with
  | zero =>
    intro i ty h1 h2 _
    cases ty <;> simp [chkAr] at h1
    simp only [Ty.size] at h2
    show cs.drop _ = []
    exact List.drop_eq_nil_of_le (by omega)
  | succ k ihk =>
    intro i ty h1 h2 h3
    cases ty with
    | cons a b =>
      simp only [chkAr, Bool.and_eq_true, beq_iff_eq] at h1
      obtain ⟨⟨e2, e3⟩, e4⟩ := h1
      simp only [Ty.size] at h2
      obtain ⟨x, h5⟩ := h3 0 (by omega)
      have e6 : i * P.cellsOf e + a.size = (i + 1) * P.cellsOf e := by rw [Nat.add_mul, e2]; omega
      refine ⟨(cs.drop (i * P.cellsOf e)).take a.size, cs.drop ((i + 1) * P.cellsOf e), ?_, ?_, ?_⟩
      · rw [← e6, ← List.drop_drop, List.take_append_drop]
      · rw [Nat.add_zero] at h5; rw [← e2]; exact ih _ _ _ _ _ e3 h5
      · refine ihk (i + 1) b e4 (by omega) fun j hj => ?_
        have := h3 (j + 1) (by omega)
        rwa [show i + (j + 1) = i + 1 + j by omega] at this
    | _ => simp [chkAr] at h1

theorem mat_of_trod : ∀ (n : Nat) (t : TypeId) (ty : Ty) (fuel : Nat) (cs : List Value) (x : DataW H × List MemPlace), chk P n t ty = true → DataW.trod enc P w 0 (fun _ => true) true fuel t cs = some x → Mat w ty cs := by
  intro n
  induction n with
  | zero => intro t ty fuel cs x h; simp [chk] at h
  | succ n ih =>
    intro t ty fuel cs x hc h
    cases fuel with
    | zero => simp [DataW.trod] at h
    | succ fuel =>
      simp only [chk] at hc
      split at hc
      · rename_i hu
        simp only [beq_iff_eq] at hc; subst hc
        obtain ⟨m, rfl, _, h1⟩ := DataW.trod_int hu h
        exact ⟨m, rfl, h1⟩
      · rename_i hu
        simp only [beq_iff_eq] at hc; subst hc
        obtain ⟨m, rfl, _, h1⟩ := DataW.trod_string hu h
        exact ⟨m, rfl, h1⟩
      · rename_i hu
        simp only [beq_iff_eq] at hc; subst hc
        obtain ⟨m, rfl, _⟩ := DataW.trod_bool hu h
        exact ⟨m, rfl⟩
      · rename_i e hu
        split at hc
        · rename_i y
          simp only [Bool.and_eq_true, beq_iff_eq, decide_eq_true_eq] at hc
          obtain ⟨⟨e1, e2⟩, e3⟩ := hc
          rcases DataW.trod_slice hu h with ⟨rfl, _⟩ | ⟨a, len, cap, elems, rest, m, _, rfl, _, _, hl, hm, hlen, hel, _⟩
          · exact ⟨none, 0, 0, rfl, Nat.le_refl _, Nat.zero_le _, .inl rfl⟩
          · refine ⟨some a, len, cap, rfl, hl, hm, ?_⟩
            by_cases h0 : len = 0
            · exact .inl h0
            · have key : ∀ i, i < len → ∃ r, w.cells? 0 (a.add (i * P.cellsOf e)) (P.cellsOf e) = some r ∧ Mat w y r := by
                intro i hi
                have h5 := hel i hi
                rw [List.getElem?_eq_getElem (by omega), Option.bind_eq_some_iff] at h5
                obtain ⟨r, h6, h7⟩ := h5
                exact ⟨r, h6, ih _ _ _ _ _ e3 h7⟩
              have h9' : a.spot = none := by
                obtain ⟨r, h6, h7⟩ := key 0 (by omega)
                obtain ⟨_, h9, _⟩ := cells_row h6 (by omega)
                rw [Nat.zero_mul, addr_zero] at h9
                exact h9
              have hrows : ∀ k, k ≤ len → ∃ rows : List (List Value), rows.length = k ∧ (∀ r ∈ rows, Mat w y r) ∧ rows.flatten.length = k * y.size ∧ ∀ i (hi : i < rows.flatten.length), w.cell? (a.add i) = some rows.flatten[i] := by
                intro k
                induction k with
                | zero => intro _; exact ⟨[], rfl, by simp, by simp, by simp⟩
                | succ k ihk =>
                  intro hk
                  obtain ⟨rows, r1, r2, r3, r4⟩ := ihk (by omega)
                  obtain ⟨r, h6, h7⟩ := key k (by omega)
                  obtain ⟨h8, h9, h10⟩ := cells_row h6 (by omega)
                  refine ⟨rows ++ [r], by simp [r1], ?_, ?_, ?_⟩
                  · intro x hx; simp at hx; rcases hx with hx | rfl
                    · exact r2 x hx
                    · exact h7
                  · simp [List.flatten_append, r3, h8, e1, Nat.add_mul]
                  · intro i hi
                    have e5 : (rows ++ [r]).flatten = rows.flatten ++ r := by simp
                    simp only [e5] at hi ⊢
                    by_cases hlt : i < rows.flatten.length
                    · rw [List.getElem_append_left hlt]; exact r4 i hlt
                    · rw [List.getElem_append_right (by omega)]
                      simp only [List.length_append] at hi
                      have := h10 (i - rows.flatten.length) (by omega)
                      rw [← this, addr_add' a h9', addr_add' a h9', addr_add' _ rfl]
                      congr 2
                      simp only
                      rw [r3, e1]; omega
              obtain ⟨rows, r1, r2, r3, r4⟩ := hrows len (Nat.le_refl _)
              have hne : rows.flatten ≠ [] := by
                intro h; rw [h] at r3
                have : 0 < len * y.size := Nat.mul_pos (by omega) e2
                simp at r3; omega
              exact .inr ⟨a, rfl, rows, r1, row_of_cells h9' r4 hne, r2⟩
        · cases hc
      · rename_i fs hu
        simp only [Bool.and_eq_true, beq_iff_eq] at hc
        obtain ⟨xs, m, h0, _, h1, h2, h3⟩ := DataW.trod_struct hu h
        have := mat_fs (enc := enc) ih m cs fs.toList 0 ty hc.2 (by omega) (by
          intro f hf
          obtain ⟨i, hi, rfl⟩ := List.getElem_of_mem hf
          have hi' : i < fs.size := by simpa using hi
          have h4 := h3 i fs[i] (by simp [hi'])
          rw [List.getElem?_eq_getElem (by omega)] at h4
          exact ⟨_, by simpa using h4⟩)
        simpa using this
      · rename_i k e hu
        simp only [Bool.and_eq_true, beq_iff_eq] at hc
        obtain ⟨xs, m, h0, _, h1, h2, h3⟩ := DataW.trod_array hu h
        have := mat_ar (enc := enc) ih m cs e k 0 ty hc.2 (by omega) (by
          intro j hj
          have h4 := h3 j hj
          rw [List.getElem?_eq_getElem (by omega)] at h4
          exact ⟨_, by simpa using h4⟩)
        simpa using this
      · cases hc
end Go.Cw
namespace Go.Cw
open Go Go.RowKit

/-- a slice of things that are laid so -/
theorem mat_sl {w : World} {α : Type} {enc : α → List Value} {ty : Ty} {Good : α → Prop} (hc : ∀ cs, Mat w ty cs → ∃ x, Good x ∧ cs = enc x) {v : Value} (hm : Mat w (.sl ty) [v]) :
    ∃ l : List α, Sl enc (full w) v l ∧ (∀ x ∈ l, Good x) ∧ l.length ≤ maxLen := by
  obtain ⟨a, n, cap, e, h1, h2, h3⟩ := hm
  simp only [List.cons.injEq, and_true] at e
  subst e
  rcases h3 with rfl | ⟨g, rfl, rows, h4, h5, h6⟩
  · exact ⟨[], ⟨a, cap, rfl, by simp, .inl rfl⟩, by simp, by simp⟩
  · have key : ∀ rows : List (List Value), (∀ r ∈ rows, Mat w ty r) → ∃ l : List α, rows.flatten = l.flatMap enc ∧ l.length = rows.length ∧ ∀ x ∈ l, Good x := by
      intro rows
      induction rows with
      | nil => intro _; exact ⟨[], rfl, rfl, by simp⟩
      | cons r rows ih =>
        intro hr
        obtain ⟨l, a1, a2, a3⟩ := ih fun r hr' => hr r (by simp [hr'])
        obtain ⟨x, b1, b2⟩ := hc r (hr r (by simp))
        exact ⟨x :: l, by simp [a1, b2], by simp [a2], by simp; exact ⟨b1, a3⟩⟩
    obtain ⟨l, a1, a2, a3⟩ := key rows h6
    refine ⟨l, ⟨some g, cap, by rw [a2, h4], by rw [a2, h4]; exact h1, .inr ⟨g, rfl, by rw [← a1]; exact h5⟩⟩, a3, by rw [a2, h4]; omega⟩

theorem mat_int {w : World} {b : Ty} {cs : List Value} (h : Mat w (.cons .int b) cs) : ∃ n r, cs = .int .i64 n :: r ∧ Mat w b r := by
  obtain ⟨x, y, rfl, ⟨n, rfl, _⟩, h2⟩ := h
  exact ⟨n, y, rfl, h2⟩
theorem mat_str {w : World} {b : Ty} {cs : List Value} (h : Mat w (.cons .str b) cs) : ∃ (s : List UInt8) (r : List Value), cs = .string (str s) :: r ∧ s.length ≤ maxLen ∧ Mat w b r := by
  obtain ⟨x, y, rfl, ⟨n, rfl, h1⟩, h2⟩ := h
  exact ⟨n.data.toList, y, by rw [str_of]; rfl, by simpa using h1, h2⟩
theorem mat_one {w : World} {a b : Ty} {cs : List Value} (h : Mat w (.cons (.sl a) b) cs) : ∃ v r, cs = v :: r ∧ Mat w (.sl a) [v] ∧ Mat w b r := by
  obtain ⟨x, y, rfl, h1, h2⟩ := h
  have h1' := h1
  obtain ⟨a', n, cap, rfl, _⟩ := h1
  exact ⟨_, y, rfl, h1', h2⟩

def rdTy : Ty := .cons .int (.cons .int (.cons .int (.cons .str .nil)))
def frTy : Ty := .cons .int (.cons (.sl rdTy) (.cons .int .nil))
theorem mat_rd {w : World} (cs : List Value) (h : Mat w rdTy cs) : ∃ x : Rd, True ∧ cs = x.enc := by
  obtain ⟨a, _, rfl, h1⟩ := mat_int h
  obtain ⟨b, _, rfl, h2⟩ := mat_int h1
  obtain ⟨c, _, rfl, h3⟩ := mat_int h2
  obtain ⟨s, _, rfl, _, h4⟩ := mat_str h3
  cases h4
  exact ⟨⟨a, b, c, s⟩, trivial, rfl⟩
theorem mat_fr {w : World} {cs : Array Value} (h : Mat w frTy cs.toList) : ∃ f, FrV (full w) (.agg cs) f := by
  obtain ⟨a, r1, e1, h⟩ := mat_int h
  obtain ⟨v, r2, e2, hv, h⟩ := mat_one h
  obtain ⟨b, r3, e3, h⟩ := mat_int h
  cases h
  obtain ⟨l, hl, _, _⟩ := mat_sl mat_rd hv
  refine ⟨⟨a, l, b⟩, v, ?_, hl⟩
  have : cs = cs.toList.toArray := rfl
  rw [this, e1, e2, e3]

theorem okWide_agg {P : Program} {w : World} {r : Reach} {b0 : Nat} {t : TypeId} {fs : Array Field} {v : Value} (ht : P.underlying t = some (.struct fs)) (h : Value.okWide P w r b0 t v) : ∃ cs, v = .agg cs := by
  unfold Value.okWide at h
  rw [ht] at h
  obtain ⟨cs, h1, _⟩ := h
  exact ⟨cs, h1⟩

/-- what is proved of a law, as the row wants it -/
theorem law_calls {P : Program} {N : Num} {k : Nat} {f : FuncId} {args : List Value} {w : World} (hf : N.fid k = f) (h : GF P N k args (full w) fun v h' => v = .bool true ∧ Heap.le (full w) h') :
    Calls P f args.toArray w fun e w' => e = .returned (.bool true) ∧ Below w.heap.size w w' := by
  subst hf
  refine (h.2 w (full_sub w)).mono ?_
  rintro e w' ⟨v, h', rfl, ⟨rfl, hle⟩, hs⟩
  refine ⟨rfl, hs.os, hs.tape, hs.output, hs.size, fun b hb => ?_⟩
  have h1 : full w b = some w.heap[b] := by simp [full, hb]
  rw [hs.sub b _ (hle b _ h1)]
  simp [hb]
end Go.Cw
namespace Go.Cw
open Go
theorem mat_encS {w : World} (cs : List Value) (h : Mat w .str cs) : ∃ x : List UInt8, x.length ≤ maxLen ∧ cs = encS x := by
  obtain ⟨s, rfl, h⟩ := h
  exact ⟨s.data.toList, by simpa using h, by simp [encS, str_of]⟩
/-- a value of one cell -/
theorem mat_cell {w : World} {v : Value} {a : Option Addr} {n c : Nat} {ty : Ty} (he : v = .slice a n c) (h : Mat w ty v.cells.toList) : Mat w ty [v] := by subst he; simpa [Value.cells] using h
end Go.Cw
