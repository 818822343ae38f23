/- Part 4 of the proof of TopEpochs: a small language for the program's functions, its soundness, and what the functions do. No conditions beyond the theorems' own. -/
import Derived.Test.YthhepmakjimhlaaCw3
import Derived.Sort.AssemblyPlain
import Derived.Sort.Walk7
import Derived.Sort.WalkA6
import Derived.Sort.WalkC
set_option linter.unusedSimpArgs false
set_option linter.unusedVariables false
namespace Go.Cw
open Go

/-- two tracks, held apart, beside what stays -/
structure K2 (h H gt gm F : Heap) : Prop where
  hF : Heap.le h F
  lF : Heap.le F H
  lt : Heap.le gt H
  lm : Heap.le gm H
  dtm : disj gt gm
  dtF : disj gt F
  dmF : disj gm F
theorem disj.sym {a b : Heap} (h : disj a b) : disj b a := by
  intro x hx
  cases e : a x with
  | none => rfl
  | some o => exact absurd (h x (by rw [e]; simp)) hx
theorem K2.le {h H gt gm F : Heap} (k : K2 h H gt gm F) : Heap.le h H := k.hF.trans k.lF
theorem K2.stepT {h H gt gm F gt' H' : Heap} (k : K2 h H gt gm F) (s : Step gt H gt' H') : K2 h H' gt' gm F :=
  let a := s.keep k.lm k.dtm.sym; let b := s.keep k.lF k.dtF.sym
  ⟨k.hF, b.1, s.le, a.1, a.2.sym, b.2.sym, k.dmF⟩
theorem K2.stepM {h H gt gm F gm' H' : Heap} (k : K2 h H gt gm F) (s : Step gm H gm' H') : K2 h H' gt gm' F :=
  let a := s.keep k.lt k.dtm; let b := s.keep k.lF k.dmF.sym
  ⟨k.hF, b.1, a.1, s.le, a.2, k.dtF, b.2.sym⟩
theorem K2.more {h H gt gm F H' : Heap} (k : K2 h H gt gm F) (hl : Heap.le H H') : K2 h H' gt gm F :=
  ⟨k.hF, k.lF.trans hl, k.lt.trans hl, k.lm.trans hl, k.dtm, k.dtF, k.dmF⟩
theorem disj_fr {a F H H' : Heap} (ha : Heap.le a H) (hd : disj a F) : disj a (join F (fr H H')) := by
  intro x hx
  cases e : a x with
  | none => exact absurd e hx
  | some o => exact join_none (hd x hx) (fr_none (ha x o e))
theorem K2.freeze {h H gt gm F H' : Heap} (k : K2 h H gt gm F) (hl : Heap.le H H') : K2 h H' gt gm (join F (fr H H')) :=
  ⟨k.hF.trans (join_l _ _), join_le (k.lF.trans hl) (fr_le _ _), k.lt.trans hl, k.lm.trans hl, k.dtm, disj_fr k.lt k.dtF, disj_fr k.lm k.dmF⟩
theorem K2.weak {h H gt gm F F' : Heap} (k : K2 h H gt gm F') (h1 : Heap.le h F) (h2 : Heap.le F F') : K2 h H gt gm F :=
  ⟨h1, h2.trans k.lF, k.lt, k.lm, k.dtm, fun x hx => le_none h2 x (k.dtF x hx), fun x hx => le_none h2 x (k.dmF x hx)⟩

def light2 (L : List (List Si)) : Prop := light L ∧ ∀ l ∈ L, ∀ s ∈ l, s.tag.length ≤ 20
def S12t : Spec := fun args h K => ∃ v L, args = [v] ∧ SS h v L ∧ ∀ bb : Bool, (bb = true → light2 L) → K (.bool bb) h
theorem F12t_ok {N : Num} {Γ : Ctx} [GoodC Γ] : Sat S12t (SF N Γ F12) := by
  rintro _ h K ⟨v, L, rfl, ⟨vs, hv, hvl, hr⟩, hK⟩
  refine i_fun rfl ?_
  simp only [F12, env0, List.map, List.length, List.replicate, List.cons_append, List.nil_append, Nat.reduceSub, Nat.reduceAdd]
  have R := hv.rules1 id (fun _ => rfl) undef
  rw [hvl] at R
  try simp (disch := first | omega | (simp only [PL]; omega)) only [PS, P1, P2, P3, P4, P5, P6, P7, P8, PA, PB, PC, Nat.reduceAdd, Nat.reduceSub, Nat.reduceMul, Nat.reduceLeDiff, Nat.reduceEqDiff, Nat.succ_ne_self, reduceCtorEq, Int.reduceToNat, Int.cast_ofNat_Int, Int.reduceEq, Int.reduceNe, Int.reduceLT, Int.reduceLE, R]
  refine i_cond (fun c1 => ?_) (fun c1 => ?_)
  · try simp (disch := first | omega | (simp only [PL]; omega)) only [PS, P1, P2, P3, P4, P5, P6, P7, P8, PA, PB, PC, Nat.reduceAdd, Nat.reduceSub, Nat.reduceMul, Nat.reduceLeDiff, Nat.reduceEqDiff, Nat.succ_ne_self, reduceCtorEq, Int.reduceToNat, Int.cast_ofNat_Int, Int.reduceEq, Int.reduceNe, Int.reduceLT, Int.reduceLE]
    exact hK false (by simp)
  · try simp (disch := first | omega | (simp only [PL]; omega)) only [PS, P1, P2, P3, P4, P5, P6, P7, P8, PA, PB, PC, Nat.reduceAdd, Nat.reduceSub, Nat.reduceMul, Nat.reduceLeDiff, Nat.reduceEqDiff, Nat.succ_ne_self, reduceCtorEq, Int.reduceToNat, Int.cast_ofNat_Int, Int.reduceEq, Int.reduceNe, Int.reduceLT, Int.reduceLE]
    refine i_loop (fun i : Nat => [some v, none, some (.int .i64 i), none, none, none, none, none, none]) (fun i h1 => h1 = h ∧ i ≤ L.length ∧ ∀ l ∈ L.take i, l.length ≤ 25 ∧ ∀ s ∈ l, s.tag.length ≤ 20) (fun i => L.length - i) 0 (by try simp only [Pe, and_true, true_and, and_self]; rfl) ⟨rfl, by omega, by simp⟩ ?_
    rintro i h1 ⟨rfl, hi, hd⟩
    try simp (disch := first | omega | (simp only [PL]; omega)) only [PS, P1, P2, P3, P4, P5, P6, P7, P8, PA, PB, PC, Nat.reduceAdd, Nat.reduceSub, Nat.reduceMul, Nat.reduceLeDiff, Nat.reduceEqDiff, Nat.succ_ne_self, reduceCtorEq, Int.reduceToNat, Int.cast_ofNat_Int, Int.reduceEq, Int.reduceNe, Int.reduceLT, Int.reduceLE, R]
    refine i_cond (fun c2 => ?_) (fun c2 => ?_)
    · have hi2 : i < L.length := by omega
      have Ri := (hr i hi2).rules 4 Si.enc_len default
      try simp (disch := first | omega | (simp only [PL]; omega)) only [PS, P1, P2, P3, P4, P5, P6, P7, P8, PA, PB, PC, Nat.reduceAdd, Nat.reduceSub, Nat.reduceMul, Nat.reduceLeDiff, Nat.reduceEqDiff, Nat.succ_ne_self, reduceCtorEq, Int.reduceToNat, Int.cast_ofNat_Int, Int.reduceEq, Int.reduceNe, Int.reduceLT, Int.reduceLE, R, id, Ri]
      refine i_cond (fun c3 => ?_) (fun c3 => ?_)
      · try simp (disch := first | omega | (simp only [PL]; omega)) only [PS, P1, P2, P3, P4, P5, P6, P7, P8, PA, PB, PC, Nat.reduceAdd, Nat.reduceSub, Nat.reduceMul, Nat.reduceLeDiff, Nat.reduceEqDiff, Nat.succ_ne_self, reduceCtorEq, Int.reduceToNat, Int.cast_ofNat_Int, Int.reduceEq, Int.reduceNe, Int.reduceLT, Int.reduceLE]
        exact hK false (by simp)
      · try simp (disch := first | omega | (simp only [PL]; omega)) only [PS, P1, P2, P3, P4, P5, P6, P7, P8, PA, PB, PC, Nat.reduceAdd, Nat.reduceSub, Nat.reduceMul, Nat.reduceLeDiff, Nat.reduceEqDiff, Nat.succ_ne_self, reduceCtorEq, Int.reduceToNat, Int.cast_ofNat_Int, Int.reduceEq, Int.reduceNe, Int.reduceLT, Int.reduceLE]
        refine i_loop (fun k : Nat => [some v, none, some (.int .i64 i), some (.int .i64 k), none, none, none, none, none]) (fun k h2 => h2 = h1 ∧ k ≤ (L.getD i []).length ∧ ∀ s ∈ (L.getD i []).take k, s.tag.length ≤ 20) (fun k => (L.getD i []).length - k) 0 (by try simp only [Pe, and_true, true_and, and_self]; rfl) ⟨rfl, by omega, by simp⟩ ?_
        rintro k h2 ⟨rfl, hk, hkt⟩
        try simp (disch := first | omega | (simp only [PL]; omega)) only [PS, P1, P2, P3, P4, P5, P6, P7, P8, PA, PB, PC, Nat.reduceAdd, Nat.reduceSub, Nat.reduceMul, Nat.reduceLeDiff, Nat.reduceEqDiff, Nat.succ_ne_self, reduceCtorEq, Int.reduceToNat, Int.cast_ofNat_Int, Int.reduceEq, Int.reduceNe, Int.reduceLT, Int.reduceLE, R, id, Ri]
        refine i_cond (fun c4 => ?_) (fun c4 => ?_)
        · have hk2 : k < (L.getD i []).length := by omega
          try simp (disch := first | omega | (simp only [PL]; omega)) only [PS, P1, P2, P3, P4, P5, P6, P7, P8, PA, PB, PC, Nat.reduceAdd, Nat.reduceSub, Nat.reduceMul, Nat.reduceLeDiff, Nat.reduceEqDiff, Nat.succ_ne_self, reduceCtorEq, Int.reduceToNat, Int.cast_ofNat_Int, Int.reduceEq, Int.reduceNe, Int.reduceLT, Int.reduceLE, R, id, Ri, Si.enc]
          refine i_cond (fun c5 => ?_) (fun c5 => ?_)
          · try simp (disch := first | omega | (simp only [PL]; omega)) only [PS, P1, P2, P3, P4, P5, P6, P7, P8, PA, PB, PC, Nat.reduceAdd, Nat.reduceSub, Nat.reduceMul, Nat.reduceLeDiff, Nat.reduceEqDiff, Nat.succ_ne_self, reduceCtorEq, Int.reduceToNat, Int.cast_ofNat_Int, Int.reduceEq, Int.reduceNe, Int.reduceLT, Int.reduceLE]
            exact hK false (by simp)
          · try simp (disch := first | omega | (simp only [PL]; omega)) only [PS, P1, P2, P3, P4, P5, P6, P7, P8, PA, PB, PC, Nat.reduceAdd, Nat.reduceSub, Nat.reduceMul, Nat.reduceLeDiff, Nat.reduceEqDiff, Nat.succ_ne_self, reduceCtorEq, Int.reduceToNat, Int.cast_ofNat_Int, Int.reduceEq, Int.reduceNe, Int.reduceLT, Int.reduceLE]
            refine k_loop (k + 1) (by omega) (by try simp only [Pe, and_true, true_and, and_self]) ⟨rfl, by omega, fun s hs => ?_⟩
            rw [take_succ_d default hk2, List.mem_append, List.mem_singleton] at hs
            rcases hs with hs | rfl
            · exact hkt s hs
            · omega
        · try simp (disch := first | omega | (simp only [PL]; omega)) only [PS, P1, P2, P3, P4, P5, P6, P7, P8, PA, PB, PC, Nat.reduceAdd, Nat.reduceSub, Nat.reduceMul, Nat.reduceLeDiff, Nat.reduceEqDiff, Nat.succ_ne_self, reduceCtorEq, Int.reduceToNat, Int.cast_ofNat_Int, Int.reduceEq, Int.reduceNe, Int.reduceLT, Int.reduceLE]
          refine k_loop (i + 1) (by omega) (by try simp only [Pe, and_true, true_and, and_self]) ⟨rfl, by omega, ?_⟩
          intro l hl
          rw [take_succ_d [] hi2, List.mem_append, List.mem_singleton] at hl
          rcases hl with hl | rfl
          · exact hd l hl
          · refine ⟨by omega, fun s hs => hkt s ?_⟩
            rw [List.take_of_length_le (by omega)]; exact hs
    · try simp (disch := first | omega | (simp only [PL]; omega)) only [PS, P1, P2, P3, P4, P5, P6, P7, P8, PA, PB, PC, Nat.reduceAdd, Nat.reduceSub, Nat.reduceMul, Nat.reduceLeDiff, Nat.reduceEqDiff, Nat.succ_ne_self, reduceCtorEq, Int.reduceToNat, Int.cast_ofNat_Int, Int.reduceEq, Int.reduceNe, Int.reduceLT, Int.reduceLE]
      have : i = L.length := by omega
      subst this
      rw [List.take_length] at hd
      exact hK true (fun _ => ⟨⟨by omega, fun l hl => (hd l hl).1⟩, fun l hl => (hd l hl).2⟩)
end Go.Cw
namespace Go.Cw
open Go

theorem bless_irr : ∀ a : List UInt8, Op.bytesLess a a = false := by
  intro a
  induction a with
  | nil => rfl
  | cons x a ih => simp [Op.bytesLess, ih]
theorem bless_trans : ∀ {a b c : List UInt8}, Op.bytesLess a b = true → Op.bytesLess b c = true → Op.bytesLess a c = true := by
  intro a
  induction a with
  | nil =>
    intro b c h1 h2
    cases c with
    | nil => cases b <;> simp [Op.bytesLess] at h2
    | cons z c => rfl
  | cons x a ih =>
    intro b c h1 h2
    cases b with
    | nil => simp [Op.bytesLess] at h1
    | cons y b =>
      cases c with
      | nil => simp [Op.bytesLess] at h2
      | cons z c =>
        simp only [Op.bytesLess, Bool.or_eq_true, decide_eq_true_eq, Bool.and_eq_true, beq_iff_eq] at h1 h2 ⊢
        rcases h1 with h1 | ⟨rfl, h1⟩
        · rcases h2 with h2 | ⟨rfl, _⟩
          · exact .inl (UInt8.lt_trans h1 h2)
          · exact .inl h1
        · rcases h2 with h2 | ⟨rfl, h2⟩
          · exact .inl h2
          · exact .inr ⟨rfl, ih h1 h2⟩
theorem bless_tot : ∀ {a b : List UInt8}, Op.bytesLess a b = false → a ≠ b → Op.bytesLess b a = true := by
  intro a
  induction a with
  | nil =>
    intro b h1 h2
    cases b with
    | nil => exact absurd rfl h2
    | cons y b => simp [Op.bytesLess] at h1
  | cons x a ih =>
    intro b h1 h2
    cases b with
    | nil => rfl
    | cons y b =>
      simp only [Op.bytesLess, Bool.or_eq_false_iff, decide_eq_false_iff_not, Bool.and_eq_false_imp, beq_iff_eq] at h1
      simp only [Op.bytesLess, Bool.or_eq_true, decide_eq_true_eq, Bool.and_eq_true, beq_iff_eq]
      by_cases e : x = y
      · subst e
        exact .inr ⟨rfl, ih (h1.2 rfl) (fun e => h2 (by rw [e]))⟩
      · refine .inl ?_
        rcases UInt8.lt_or_lt_of_ne (Ne.symm e) with h | h
        · exact h
        · exact absurd h h1.1
theorem bless_asymm {a b : List UInt8} (h : Op.bytesLess a b = true) : Op.bytesLess b a = false := by
  cases hb : Op.bytesLess b a with
  | false => rfl
  | true => have := bless_trans h hb; rw [bless_irr] at this; cases this

def ordT (l : List (List UInt8)) : Prop := l.Pairwise fun a b => Op.bytesLess a b = true
theorem ordT_ins (s : List UInt8) : ∀ l, ordT l → ordT (insT l s) := by
  intro l
  induction l with
  | nil => intro _; simp [insT, ordT]
  | cons x l ih =>
    intro h
    have h1 := List.pairwise_cons.1 h
    simp only [insT]
    split
    · rename_i hx
      refine List.pairwise_cons.2 ⟨fun y hy => ?_, ih h1.2⟩
      rcases (mem_insT s y l).1 hy with rfl | hy
      · exact hx
      · exact h1.1 y hy
    · rename_i hx
      split
      · exact h
      · rename_i hne
        have hsx : Op.bytesLess s x = true := bless_tot (by simpa using hx) hne
        refine List.pairwise_cons.2 ⟨fun y hy => ?_, h⟩
        simp only [List.mem_cons] at hy
        rcases hy with rfl | hy
        · exact hsx
        · exact bless_trans hsx (h1.1 y hy)
theorem ordT_tagsOfL (l : List (List UInt8)) : ordT (tagsOfL l) := by
  induction l using snoc_ind with
  | h0 => simp [tagsOfL, ordT]
  | hs l s ih => rw [tagsOfL_snoc]; exact ordT_ins s _ ih
theorem ordT_nodup {l : List (List UInt8)} (h : ordT l) : l.Nodup := by
  refine List.Pairwise.imp (fun {a b} h e => ?_) h
  subst e; rw [bless_irr] at h; cases h
theorem tagsE_nodup (E : List (List Si)) : (tagsE E).Nodup := ordT_nodup (ordT_tagsOfL _)
theorem nodup_len {α : Type} [DecidableEq α] {l m : List α} (hl : l.Nodup) (hm : m.Nodup) (h : ∀ x, x ∈ l ↔ x ∈ m) : l.length = m.length := by
  have h1 : ∀ {l m : List α}, l.Nodup → (∀ x ∈ l, x ∈ m) → l.length ≤ m.length := by
    intro l
    induction l with
    | nil => intro m _ _; simp
    | cons a l ih =>
      intro m hn hs
      have hn' := List.nodup_cons.1 hn
      have ha := hs a (by simp)
      have := ih (m := m.erase a) hn'.2 fun x hx => by
        have : x ≠ a := by rintro rfl; exact hn'.1 hx
        exact (List.mem_erase_of_ne this).2 (hs x (by simp [hx]))
      rw [List.length_erase_of_mem ha] at this
      have := List.length_pos_of_mem ha
      simp; omega
  exact Nat.le_antisymm (h1 hl fun x hx => (h x).1 hx) (h1 hm fun x hx => (h x).2 hx)
end Go.Cw
/- Tags: what their bytes say. -/
namespace Go.Cw
open Go

structure Tg where
  kind : Int
  filter : Int
  part : Int
  company : Int
  ref : Int
  serial : Int
  deriving DecidableEq, Inhabited
def Tg.enc (t : Tg) : List Value := [.int .i64 t.kind, .int .i64 t.filter, .int .i64 t.part, .int .i64 t.company, .int .i64 t.ref, .int .i64 t.serial]
def Tg.zero : Tg := ⟨0, 0, 0, 0, 0, 0⟩
structure Pa where
  cb : Nat
  cd : Nat
  rb : Nat
  rd : Nat
  deriving DecidableEq, Inhabited
def Pa.enc (p : Pa) : List Value := [.int .i64 p.cb, .int .i64 p.cd, .int .i64 p.rb, .int .i64 p.rd]
def partsOf (p : Int) : Option Pa :=
  if p = 0 then some ⟨20, 6, 6, 1⟩ else if p = 1 then some ⟨17, 5, 9, 2⟩ else if p = 2 then some ⟨14, 4, 12, 3⟩ else if p = 3 then some ⟨10, 3, 16, 4⟩ else if p = 4 then some ⟨7, 2, 19, 5⟩ else if p = 5 then some ⟨4, 1, 22, 6⟩ else none
theorem partsOf_none {p : Int} : partsOf p = none ↔ p < 0 ∨ 6 ≤ p := by
  unfold partsOf
  repeat' split
  all_goals simp
  all_goals omega
theorem partsOf_some {p : Int} {a : Pa} (h : partsOf p = some a) : a.cb + a.rb = 26 ∧ 1 ≤ a.cd ∧ a.cd ≤ 6 ∧ 1 ≤ a.rd ∧ a.rd ≤ 6 ∧ 4 ≤ a.cb ∧ a.cb ≤ 20 ∧ 6 ≤ a.rb ∧ a.rb ≤ 22 := by
  unfold partsOf at h
  repeat' split at h
  all_goals first | (cases h; done) | (cases h; simp)
/-- is a tag none that may be? -/
def Tg.bad (t : Tg) : Prop := match partsOf t.part with
  | none => True
  | some a => t.kind < 1 ∨ 3 < t.kind ∨ t.filter < 0 ∨ 7 < t.filter ∨ t.serial < 0 ∨ 16777215 < t.serial ∨ t.company < 0 ∨ (10 ^ a.cd : Nat) ≤ t.company ∨ t.ref < 0 ∨ (10 ^ a.rd : Nat) ≤ t.ref
instance Tg.decBad (t : Tg) : Decidable t.bad := by unfold Tg.bad; split <;> infer_instance

/-- eight bytes as one number -/
def num (b : List UInt8) : Nat := b.foldl (fun a x => a * 256 + x.toNat) 0
theorem num_snoc (b : List UInt8) (x : UInt8) : num (b ++ [x]) = num b * 256 + x.toNat := by simp [num]
theorem num_lt (b : List UInt8) : num b < 256 ^ b.length := by
  induction b using snoc_ind with
  | h0 => simp [num]
  | hs b x ih =>
    have := x.toNat_lt
    rw [num_snoc, List.length_append, List.length_singleton, Nat.pow_succ]
    omega
def bitAt (b : List UInt8) (i : Nat) : Nat := (b.getD (i / 8) 0).toNat / 2 ^ (7 - i % 8) % 2
theorem mod256_bit (y : Nat) {s : Nat} (hs : s ≤ 7) : (y % 256) / 2 ^ s % 2 = y / 2 ^ s % 2 := by
  have : s = 0 ∨ s = 1 ∨ s = 2 ∨ s = 3 ∨ s = 4 ∨ s = 5 ∨ s = 6 ∨ s = 7 := by omega
  rcases this with rfl | rfl | rfl | rfl | rfl | rfl | rfl | rfl <;> simp only [Nat.reducePow] <;> omega
theorem byte_num {b : List UInt8} (hb : b.length = 8) {j : Nat} (hj : j < 8) : (b.getD j 0).toNat = num b / 2 ^ (56 - 8 * j) % 256 := by
  match b, hb with
  | [b0, b1, b2, b3, b4, b5, b6, b7], _ =>
    have h0 := b0.toNat_lt
    have h1 := b1.toNat_lt
    have h2 := b2.toNat_lt
    have h3 := b3.toNat_lt
    have h4 := b4.toNat_lt
    have h5 := b5.toNat_lt
    have h6 := b6.toNat_lt
    have h7 := b7.toNat_lt
    unfold num
    simp only [List.foldl_cons, List.foldl_nil]
    have : j = 0 ∨ j = 1 ∨ j = 2 ∨ j = 3 ∨ j = 4 ∨ j = 5 ∨ j = 6 ∨ j = 7 := by omega
    rcases this with rfl | rfl | rfl | rfl | rfl | rfl | rfl | rfl <;> simp only [List.getD_cons_zero, List.getD_cons_succ, Nat.reduceMul, Nat.reduceSub, Nat.reducePow] <;> omega
theorem bitAt_num {b : List UInt8} (hb : b.length = 8) {i : Nat} (hi : i < 64) : bitAt b i = num b / 2 ^ (63 - i) % 2 := by
  unfold bitAt
  rw [byte_num hb (show i / 8 < 8 by omega), mod256_bit _ (by omega), Nat.div_div_eq_div_mul, ← Nat.pow_add]
  congr 3; omega

/-- so many bits from a place on -/
def rdBits (b : List UInt8) (at_ : Nat) : Nat → Nat
  | 0 => 0
  | k + 1 => 2 * rdBits b at_ k + bitAt b (at_ + k)
theorem rdBits_num {b : List UInt8} (hb : b.length = 8) (at_ : Nat) : ∀ k, at_ + k ≤ 64 → rdBits b at_ k = num b / 2 ^ (64 - at_ - k) % 2 ^ k := by
  intro k
  induction k with
  | zero => intro _; simp [rdBits, Nat.mod_one]
  | succ k ih =>
    intro h
    rw [rdBits, ih (by omega), bitAt_num hb (by omega)]
    have e1 : 64 - at_ - k = (64 - at_ - (k + 1)) + 1 := by omega
    have e2 : 63 - (at_ + k) = 64 - at_ - (k + 1) := by omega
    rw [e1, e2, Nat.pow_succ, Nat.pow_succ, ← Nat.div_div_eq_div_mul, Nat.mul_comm (2 ^ k) 2, Nat.mod_mul]
    omega

def tagAt (n : Nat) (a : Pa) : Tg := ⟨((n / 2 ^ 56 : Nat) : Int) - 47, (n / 2 ^ 53 % 8 : Nat), (n / 2 ^ 50 % 8 : Nat), (n / 2 ^ (24 + a.rb) % 2 ^ a.cb : Nat), (n / 2 ^ 24 % 2 ^ a.rb : Nat), (n % 2 ^ 24 : Nat)⟩
/-- the tag of eight bytes -/
def tagOf (b : List UInt8) : Option Tg :=
  if b.length ≠ 8 then none else match partsOf (num b / 2 ^ 50 % 8 : Nat) with
    | none => none
    | some a => if (tagAt (num b) a).bad then none else some (tagAt (num b) a)
def kindOf (b : List UInt8) : Int := match tagOf b with
  | none => 0
  | some t => t.kind
theorem kindOf_range (b : List UInt8) : 0 ≤ kindOf b ∧ kindOf b ≤ 3 := by
  unfold kindOf
  cases h : tagOf b with
  | none => simp
  | some t =>
    unfold tagOf at h
    split at h
    · cases h
    · split at h
      · cases h
      · split at h <;> cases h
        rename_i hb
        unfold Tg.bad at hb
        split at hb
        · simp at hb
        · dsimp only; omega
end Go.Cw
namespace Go.Cw
open Go

theorem i_cal {N : Num} {Γ : Ctx} {S : Spec} {k : Nat} {us : List Value} {caps : Array Value} {h : Heap} {K : Value → Heap → Prop} (hs : Sat S (Γ k)) (hx : S (us ++ caps.toList) h K) : efW N Γ .cal (.func (.func (N.fid k)) #[] caps :: us) h K := ⟨k, rfl, rfl, hs _ _ _ hx⟩

def paV (p : Int) : Value := .agg ((partsOf p).elim [.int .i64 0, .int .i64 0, .int .i64 0, .int .i64 0] Pa.enc).toArray
def S79 : Spec := fun args h K => ∃ p, args = [.int .i64 p] ∧ K (.tuple #[paV p, .bool (partsOf p).isSome]) h
theorem F79_ok {N : Num} {Γ : Ctx} [GoodC Γ] : Sat S79 (SF N Γ F79) := by
  rintro _ h K ⟨p, rfl, hK⟩
  refine i_fun rfl ?_
  simp only [F79, env0, List.map, List.length, List.replicate, List.cons_append, List.nil_append, Nat.reduceSub, Nat.reduceAdd]
  unfold paV partsOf at hK
  try simp (disch := first | omega | (simp only [PL]; omega)) only [PS, P1, P2, P3, P4, P5, P6, P7, P8, PA, PB, PC, Nat.reduceAdd, Nat.reduceSub, Nat.reduceMul, Nat.reduceLeDiff, Nat.reduceEqDiff, Nat.succ_ne_self, reduceCtorEq, Int.reduceToNat, Int.cast_ofNat_Int, Int.reduceEq, Int.reduceNe, Int.reduceLT, Int.reduceLE]
  refine i_cond (fun c => ?_) (fun c => ?_)
  · rw [if_pos (by omega)] at hK
    try simp (disch := first | omega | (simp only [PL]; omega)) only [PS, P1, P2, P3, P4, P5, P6, P7, P8, PA, PB, PC, Nat.reduceAdd, Nat.reduceSub, Nat.reduceMul, Nat.reduceLeDiff, Nat.reduceEqDiff, Nat.succ_ne_self, reduceCtorEq, Int.reduceToNat, Int.cast_ofNat_Int, Int.reduceEq, Int.reduceNe, Int.reduceLT, Int.reduceLE]
    exact hK
  rw [if_neg (by omega)] at hK
  try simp (disch := first | omega | (simp only [PL]; omega)) only [PS, P1, P2, P3, P4, P5, P6, P7, P8, PA, PB, PC, Nat.reduceAdd, Nat.reduceSub, Nat.reduceMul, Nat.reduceLeDiff, Nat.reduceEqDiff, Nat.succ_ne_self, reduceCtorEq, Int.reduceToNat, Int.cast_ofNat_Int, Int.reduceEq, Int.reduceNe, Int.reduceLT, Int.reduceLE]
  refine i_cond (fun c => ?_) (fun c => ?_)
  · rw [if_pos (by omega)] at hK
    try simp (disch := first | omega | (simp only [PL]; omega)) only [PS, P1, P2, P3, P4, P5, P6, P7, P8, PA, PB, PC, Nat.reduceAdd, Nat.reduceSub, Nat.reduceMul, Nat.reduceLeDiff, Nat.reduceEqDiff, Nat.succ_ne_self, reduceCtorEq, Int.reduceToNat, Int.cast_ofNat_Int, Int.reduceEq, Int.reduceNe, Int.reduceLT, Int.reduceLE]
    exact hK
  rw [if_neg (by omega)] at hK
  try simp (disch := first | omega | (simp only [PL]; omega)) only [PS, P1, P2, P3, P4, P5, P6, P7, P8, PA, PB, PC, Nat.reduceAdd, Nat.reduceSub, Nat.reduceMul, Nat.reduceLeDiff, Nat.reduceEqDiff, Nat.succ_ne_self, reduceCtorEq, Int.reduceToNat, Int.cast_ofNat_Int, Int.reduceEq, Int.reduceNe, Int.reduceLT, Int.reduceLE]
  refine i_cond (fun c => ?_) (fun c => ?_)
  · rw [if_pos (by omega)] at hK
    try simp (disch := first | omega | (simp only [PL]; omega)) only [PS, P1, P2, P3, P4, P5, P6, P7, P8, PA, PB, PC, Nat.reduceAdd, Nat.reduceSub, Nat.reduceMul, Nat.reduceLeDiff, Nat.reduceEqDiff, Nat.succ_ne_self, reduceCtorEq, Int.reduceToNat, Int.cast_ofNat_Int, Int.reduceEq, Int.reduceNe, Int.reduceLT, Int.reduceLE]
    exact hK
  rw [if_neg (by omega)] at hK
  try simp (disch := first | omega | (simp only [PL]; omega)) only [PS, P1, P2, P3, P4, P5, P6, P7, P8, PA, PB, PC, Nat.reduceAdd, Nat.reduceSub, Nat.reduceMul, Nat.reduceLeDiff, Nat.reduceEqDiff, Nat.succ_ne_self, reduceCtorEq, Int.reduceToNat, Int.cast_ofNat_Int, Int.reduceEq, Int.reduceNe, Int.reduceLT, Int.reduceLE]
  refine i_cond (fun c => ?_) (fun c => ?_)
  · rw [if_pos (by omega)] at hK
    try simp (disch := first | omega | (simp only [PL]; omega)) only [PS, P1, P2, P3, P4, P5, P6, P7, P8, PA, PB, PC, Nat.reduceAdd, Nat.reduceSub, Nat.reduceMul, Nat.reduceLeDiff, Nat.reduceEqDiff, Nat.succ_ne_self, reduceCtorEq, Int.reduceToNat, Int.cast_ofNat_Int, Int.reduceEq, Int.reduceNe, Int.reduceLT, Int.reduceLE]
    exact hK
  rw [if_neg (by omega)] at hK
  try simp (disch := first | omega | (simp only [PL]; omega)) only [PS, P1, P2, P3, P4, P5, P6, P7, P8, PA, PB, PC, Nat.reduceAdd, Nat.reduceSub, Nat.reduceMul, Nat.reduceLeDiff, Nat.reduceEqDiff, Nat.succ_ne_self, reduceCtorEq, Int.reduceToNat, Int.cast_ofNat_Int, Int.reduceEq, Int.reduceNe, Int.reduceLT, Int.reduceLE]
  refine i_cond (fun c => ?_) (fun c => ?_)
  · rw [if_pos (by omega)] at hK
    try simp (disch := first | omega | (simp only [PL]; omega)) only [PS, P1, P2, P3, P4, P5, P6, P7, P8, PA, PB, PC, Nat.reduceAdd, Nat.reduceSub, Nat.reduceMul, Nat.reduceLeDiff, Nat.reduceEqDiff, Nat.succ_ne_self, reduceCtorEq, Int.reduceToNat, Int.cast_ofNat_Int, Int.reduceEq, Int.reduceNe, Int.reduceLT, Int.reduceLE]
    exact hK
  rw [if_neg (by omega)] at hK
  try simp (disch := first | omega | (simp only [PL]; omega)) only [PS, P1, P2, P3, P4, P5, P6, P7, P8, PA, PB, PC, Nat.reduceAdd, Nat.reduceSub, Nat.reduceMul, Nat.reduceLeDiff, Nat.reduceEqDiff, Nat.succ_ne_self, reduceCtorEq, Int.reduceToNat, Int.cast_ofNat_Int, Int.reduceEq, Int.reduceNe, Int.reduceLT, Int.reduceLE]
  refine i_cond (fun c => ?_) (fun c => ?_)
  · rw [if_pos (by omega)] at hK
    try simp (disch := first | omega | (simp only [PL]; omega)) only [PS, P1, P2, P3, P4, P5, P6, P7, P8, PA, PB, PC, Nat.reduceAdd, Nat.reduceSub, Nat.reduceMul, Nat.reduceLeDiff, Nat.reduceEqDiff, Nat.succ_ne_self, reduceCtorEq, Int.reduceToNat, Int.cast_ofNat_Int, Int.reduceEq, Int.reduceNe, Int.reduceLT, Int.reduceLE]
    exact hK
  rw [if_neg (by omega)] at hK
  try simp (disch := first | omega | (simp only [PL]; omega)) only [PS, P1, P2, P3, P4, P5, P6, P7, P8, PA, PB, PC, Nat.reduceAdd, Nat.reduceSub, Nat.reduceMul, Nat.reduceLeDiff, Nat.reduceEqDiff, Nat.succ_ne_self, reduceCtorEq, Int.reduceToNat, Int.cast_ofNat_Int, Int.reduceEq, Int.reduceNe, Int.reduceLT, Int.reduceLE]
  exact hK

def S117 : Spec := fun args h K => ∃ n : Nat, args = [.int .i64 n] ∧ n ≤ 18 ∧ K (.int .i64 (10 ^ n : Nat)) h
theorem F117_ok {N : Num} {Γ : Ctx} [GoodC Γ] : Sat S117 (SF N Γ F117) := by
  rintro _ h K ⟨n, rfl, hn, hK⟩
  refine i_fun rfl ?_
  simp only [F117, env0, List.map, List.length, List.replicate, List.cons_append, List.nil_append, Nat.reduceSub, Nat.reduceAdd]
  try simp (disch := first | omega | (simp only [PL]; omega)) only [PS, P1, P2, P3, P4, P5, P6, P7, P8, PA, PB, PC, Nat.reduceAdd, Nat.reduceSub, Nat.reduceMul, Nat.reduceLeDiff, Nat.reduceEqDiff, Nat.succ_ne_self, reduceCtorEq, Int.reduceToNat, Int.cast_ofNat_Int, Int.reduceEq, Int.reduceNe, Int.reduceLT, Int.reduceLE]
  refine i_loop (fun i : Nat => [some (.int .i64 n), some (.int .i64 0), some (.int .i64 (10 ^ i : Nat)), some (.int .i64 n), some (.int .i64 i), none]) (fun i h1 => h1 = h ∧ i ≤ n) (fun i => n - i) 0 (by rw [Nat.pow_zero]; try simp only [Pe, and_true, true_and, and_self]; exact ⟨rfl, rfl⟩) ⟨rfl, by omega⟩ ?_
  rintro i h1 ⟨rfl, hi⟩
  try simp (disch := first | omega | (simp only [PL]; omega)) only [PS, P1, P2, P3, P4, P5, P6, P7, P8, PA, PB, PC, Nat.reduceAdd, Nat.reduceSub, Nat.reduceMul, Nat.reduceLeDiff, Nat.reduceEqDiff, Nat.succ_ne_self, reduceCtorEq, Int.reduceToNat, Int.cast_ofNat_Int, Int.reduceEq, Int.reduceNe, Int.reduceLT, Int.reduceLE]
  refine i_cond (fun c => ?_) (fun c => ?_)
  · have hp : 10 ^ i * 10 ≤ 10 ^ 18 := by rw [← Nat.pow_succ]; exact Nat.pow_le_pow_right (by omega) (by omega)
    have hp2 : IntKind.i64.wrap (((10 ^ i : Nat) : Int) * 10) = ((10 ^ (i + 1) : Nat) : Int) := by
      rw [w64 (by omega) (by omega), Nat.pow_succ]; omega
    try simp (disch := first | omega | (simp only [PL]; omega)) only [PS, P1, P2, P3, P4, P5, P6, P7, P8, PA, PB, PC, Nat.reduceAdd, Nat.reduceSub, Nat.reduceMul, Nat.reduceLeDiff, Nat.reduceEqDiff, Nat.succ_ne_self, reduceCtorEq, Int.reduceToNat, Int.cast_ofNat_Int, Int.reduceEq, Int.reduceNe, Int.reduceLT, Int.reduceLE, hp2]
    exact k_loop (i + 1) (by omega) (by try simp only [Pe, and_true, true_and, and_self]) ⟨rfl, by omega⟩
  · have : i = n := by omega
    subst this
    try simp (disch := first | omega | (simp only [PL]; omega)) only [PS, P1, P2, P3, P4, P5, P6, P7, P8, PA, PB, PC, Nat.reduceAdd, Nat.reduceSub, Nat.reduceMul, Nat.reduceLeDiff, Nat.reduceEqDiff, Nat.succ_ne_self, reduceCtorEq, Int.reduceToNat, Int.cast_ofNat_Int, Int.reduceEq, Int.reduceNe, Int.reduceLT, Int.reduceLE]
    exact hK
def S107 : Spec := fun args h K => ∃ p, args = [.int .i64 p] ∧ ∀ h', Heap.le h h' → K (.tuple #[paV p, .bool (partsOf p).isSome]) h'
theorem F107_ok {N : Num} {Γ : Ctx} [GoodC Γ] : Sat S107 (SF N Γ F107) := by
  rintro _ h K ⟨p, rfl, hK⟩
  refine i_fun rfl ?_
  simp only [F107, env0, List.map, List.length, List.replicate, List.cons_append, List.nil_append, Nat.reduceSub, Nat.reduceAdd]
  try simp (disch := first | omega | (simp only [PL]; omega)) only [PS, P1, P2, P3, P4, P5, P6, P7, P8, PA, PB, PC, Nat.reduceAdd, Nat.reduceSub, Nat.reduceMul, Nat.reduceLeDiff, Nat.reduceEqDiff, Nat.succ_ne_self, reduceCtorEq, Int.reduceToNat, Int.cast_ofNat_Int, Int.reduceEq, Int.reduceNe, Int.reduceLT, Int.reduceLE]
  refine i_newO fun b h1 hle1 hb ho => ?_
  try simp (disch := first | omega | (simp only [PL]; omega)) only [PS, P1, P2, P3, P4, P5, P6, P7, P8, PA, PB, PC, Nat.reduceAdd, Nat.reduceSub, Nat.reduceMul, Nat.reduceLeDiff, Nat.reduceEqDiff, Nat.succ_ne_self, reduceCtorEq, Int.reduceToNat, Int.cast_ofNat_Int, Int.reduceEq, Int.reduceNe, Int.reduceLT, Int.reduceLE]
  have ho1 := ho.le (fr_le h h1)
  refine i_st ho1 0 24 rfl rfl (by omega) (Nat.le_refl 24) fun o hob _ => ?_
  have hob2 : objAt (h1.set b o) ⟨b, 0, none⟩ [.int .i64 20, .int .i64 6, .int .i64 6, .int .i64 1, .int .i64 17, .int .i64 5, .int .i64 9, .int .i64 2, .int .i64 14, .int .i64 4, .int .i64 12, .int .i64 3, .int .i64 10, .int .i64 3, .int .i64 16, .int .i64 4, .int .i64 7, .int .i64 2, .int .i64 19, .int .i64 5, .int .i64 4, .int .i64 1, .int .i64 22, .int .i64 6] := hob h1 rfl
  have hle2 : Heap.le h (h1.set b o) := by
    intro x ob hx
    have : x ≠ b := by intro e; subst e; rw [hb] at hx; cases hx
    rw [Heap.set_ne this]; exact hle1 x ob hx
  generalize h1.set b o = h2 at *
  have hrow := hob2.row
  have hK2 := hK h2 hle2
  clear hK
  try simp (disch := first | omega | (simp only [PL]; omega)) only [PS, P1, P2, P3, P4, P5, P6, P7, P8, PA, PB, PC, Nat.reduceAdd, Nat.reduceSub, Nat.reduceMul, Nat.reduceLeDiff, Nat.reduceEqDiff, Nat.succ_ne_self, reduceCtorEq, Int.reduceToNat, Int.cast_ofNat_Int, Int.reduceEq, Int.reduceNe, Int.reduceLT, Int.reduceLE]
  refine i_cond (fun c => ?_) (fun c => ?_)
  · have hn := partsOf_none.2 (show p < 0 ∨ 6 ≤ p by omega)
    unfold paV at hK2
    rw [hn] at hK2
    try simp (disch := first | omega | (simp only [PL]; omega)) only [PS, P1, P2, P3, P4, P5, P6, P7, P8, PA, PB, PC, Nat.reduceAdd, Nat.reduceSub, Nat.reduceMul, Nat.reduceLeDiff, Nat.reduceEqDiff, Nat.succ_ne_self, reduceCtorEq, Int.reduceToNat, Int.cast_ofNat_Int, Int.reduceEq, Int.reduceNe, Int.reduceLT, Int.reduceLE]
    exact hK2
  · have hp : p = 0 ∨ p = 1 ∨ p = 2 ∨ p = 3 ∨ p = 4 ∨ p = 5 := by omega
    have r0 := hrow.row (i := 0) (n := 4) (by simp)
    have r1 := hrow.row (i := 4) (n := 4) (by simp)
    have r2 := hrow.row (i := 8) (n := 4) (by simp)
    have r3 := hrow.row (i := 12) (n := 4) (by simp)
    have r4 := hrow.row (i := 16) (n := 4) (by simp)
    have r5 := hrow.row (i := 20) (n := 4) (by simp)
    have haa : ∀ (k : IntKind) (n : Nat), n < 6 → o2V h2 (.aadr 6 4) (.v (.pointer (some ⟨b, 0, none⟩))) (.v (.int k (n : Int))) = some (.v (.pointer (some ((⟨b, 0, none⟩ : Addr).add (n * 4))))) := by
      intro k n hn
      have hb : inBounds (n : Int) 6 = true := by simp [inBounds]; omega
      simp only [o2V, hb, if_true, Int.toNat_natCast]
    rcases hp with rfl | rfl | rfl | rfl | rfl | rfl
    · have := haa .i64 0 (by omega)
      try simp (disch := first | omega | (simp only [PL]; omega)) only [PS, P1, P2, P3, P4, P5, P6, P7, P8, PA, PB, PC, Nat.reduceAdd, Nat.reduceSub, Nat.reduceMul, Nat.reduceLeDiff, Nat.reduceEqDiff, Nat.succ_ne_self, reduceCtorEq, Int.reduceToNat, Int.cast_ofNat_Int, Int.reduceEq, Int.reduceNe, Int.reduceLT, Int.reduceLE, this, r0]
      exact hK2
    · have := haa .i64 1 (by omega)
      try simp (disch := first | omega | (simp only [PL]; omega)) only [PS, P1, P2, P3, P4, P5, P6, P7, P8, PA, PB, PC, Nat.reduceAdd, Nat.reduceSub, Nat.reduceMul, Nat.reduceLeDiff, Nat.reduceEqDiff, Nat.succ_ne_self, reduceCtorEq, Int.reduceToNat, Int.cast_ofNat_Int, Int.reduceEq, Int.reduceNe, Int.reduceLT, Int.reduceLE, this, r1]
      exact hK2
    · have := haa .i64 2 (by omega)
      try simp (disch := first | omega | (simp only [PL]; omega)) only [PS, P1, P2, P3, P4, P5, P6, P7, P8, PA, PB, PC, Nat.reduceAdd, Nat.reduceSub, Nat.reduceMul, Nat.reduceLeDiff, Nat.reduceEqDiff, Nat.succ_ne_self, reduceCtorEq, Int.reduceToNat, Int.cast_ofNat_Int, Int.reduceEq, Int.reduceNe, Int.reduceLT, Int.reduceLE, this, r2]
      exact hK2
    · have := haa .i64 3 (by omega)
      try simp (disch := first | omega | (simp only [PL]; omega)) only [PS, P1, P2, P3, P4, P5, P6, P7, P8, PA, PB, PC, Nat.reduceAdd, Nat.reduceSub, Nat.reduceMul, Nat.reduceLeDiff, Nat.reduceEqDiff, Nat.succ_ne_self, reduceCtorEq, Int.reduceToNat, Int.cast_ofNat_Int, Int.reduceEq, Int.reduceNe, Int.reduceLT, Int.reduceLE, this, r3]
      exact hK2
    · have := haa .i64 4 (by omega)
      try simp (disch := first | omega | (simp only [PL]; omega)) only [PS, P1, P2, P3, P4, P5, P6, P7, P8, PA, PB, PC, Nat.reduceAdd, Nat.reduceSub, Nat.reduceMul, Nat.reduceLeDiff, Nat.reduceEqDiff, Nat.succ_ne_self, reduceCtorEq, Int.reduceToNat, Int.cast_ofNat_Int, Int.reduceEq, Int.reduceNe, Int.reduceLT, Int.reduceLE, this, r4]
      exact hK2
    · have := haa .i64 5 (by omega)
      try simp (disch := first | omega | (simp only [PL]; omega)) only [PS, P1, P2, P3, P4, P5, P6, P7, P8, PA, PB, PC, Nat.reduceAdd, Nat.reduceSub, Nat.reduceMul, Nat.reduceLeDiff, Nat.reduceEqDiff, Nat.succ_ne_self, reduceCtorEq, Int.reduceToNat, Int.cast_ofNat_Int, Int.reduceEq, Int.reduceNe, Int.reduceLT, Int.reduceLE, this, r5]
      exact hK2
end Go.Cw
namespace Go.Cw
open Go

def aggT (t : Tg) : Value := .agg #[.int .i64 t.kind, .int .i64 t.filter, .int .i64 t.part, .int .i64 t.company, .int .i64 t.ref, .int .i64 t.serial]
def faultT (t : Tg) : Nat := if t.bad then 1 else 0
theorem Tg.bad_none {t : Tg} (h : partsOf t.part = none) : t.bad := by unfold Tg.bad; rw [h]; trivial
theorem Tg.bad_some {t : Tg} {a : Pa} (h : partsOf t.part = some a) : t.bad ↔ (t.kind < 1 ∨ 3 < t.kind ∨ t.filter < 0 ∨ 7 < t.filter ∨ t.serial < 0 ∨ 16777215 < t.serial ∨ t.company < 0 ∨ (10 ^ a.cd : Nat) ≤ t.company ∨ t.ref < 0 ∨ (10 ^ a.rd : Nat) ≤ t.ref) := by unfold Tg.bad; rw [h]
theorem fault_bad {t : Tg} (h : t.bad) : faultT t = 1 := if_pos h
theorem fault_ok {t : Tg} (h : ¬ t.bad) : faultT t = 0 := if_neg h
def S128 : Spec := fun args h K => ∃ t : Tg, args = [aggT t] ∧ t.company ≤ 9223372036854775807 ∧ t.ref ≤ 9223372036854775807 ∧ ∀ h', Heap.le h h' → K (.int .i64 (faultT t : Nat)) h'
theorem F128_ok {N : Num} {Γ : Ctx} [GoodC Γ] (H79 : Sat S79 (Γ 79)) (H85 : Sat S85 (Γ 85)) : Sat S128 (SF N Γ F128) := by
  rintro _ h K ⟨t, rfl, hc, hr, hK⟩
  refine i_fun rfl ?_
  simp only [F128, env0, List.map, List.length, List.replicate, List.cons_append, List.nil_append, Nat.reduceSub, Nat.reduceAdd, aggT]
  try simp (disch := first | omega | (simp only [PL]; omega)) only [PS, P1, P2, P3, P4, P5, P6, P7, P8, PA, PB, PC, Nat.reduceAdd, Nat.reduceSub, Nat.reduceMul, Nat.reduceLeDiff, Nat.reduceEqDiff, Nat.succ_ne_self, reduceCtorEq, Int.reduceToNat, Int.cast_ofNat_Int, Int.reduceEq, Int.reduceNe, Int.reduceLT, Int.reduceLE]
  refine i_call H79 ⟨t.part, rfl, ?_⟩
  cases hp : partsOf t.part with
  | none =>
    rw [fault_bad (Tg.bad_none hp)] at hK
    simp only [paV, hp, Option.elim]
    try simp (disch := first | omega | (simp only [PL]; omega)) only [PS, P1, P2, P3, P4, P5, P6, P7, P8, PA, PB, PC, Nat.reduceAdd, Nat.reduceSub, Nat.reduceMul, Nat.reduceLeDiff, Nat.reduceEqDiff, Nat.succ_ne_self, reduceCtorEq, Int.reduceToNat, Int.cast_ofNat_Int, Int.reduceEq, Int.reduceNe, Int.reduceLT, Int.reduceLE]
    refine i_newO fun b h1 hle1 hb ho => ?_
    try simp (disch := first | omega | (simp only [PL]; omega)) only [PS, P1, P2, P3, P4, P5, P6, P7, P8, PA, PB, PC, Nat.reduceAdd, Nat.reduceSub, Nat.reduceMul, Nat.reduceLeDiff, Nat.reduceEqDiff, Nat.succ_ne_self, reduceCtorEq, Int.reduceToNat, Int.cast_ofNat_Int, Int.reduceEq, Int.reduceNe, Int.reduceLT, Int.reduceLE]
    refine i_st (ho.le (fr_le h h1)) 0 4 rfl rfl (by omega) (Nat.le_refl 4) fun o hob _ => ?_
    have hle2 : Heap.le h (h1.set b o) := by
      intro x ob hx
      have : x ≠ b := by intro e; subst e; rw [hb] at hx; cases hx
      rw [Heap.set_ne this]; exact hle1 x ob hx
    try simp (disch := first | omega | (simp only [PL]; omega)) only [PS, P1, P2, P3, P4, P5, P6, P7, P8, PA, PB, PC, Nat.reduceAdd, Nat.reduceSub, Nat.reduceMul, Nat.reduceLeDiff, Nat.reduceEqDiff, Nat.succ_ne_self, reduceCtorEq, Int.reduceToNat, Int.cast_ofNat_Int, Int.reduceEq, Int.reduceNe, Int.reduceLT, Int.reduceLE]
    exact hK _ hle2
  | some a =>
    have hbad := Tg.bad_some hp
    simp only [paV, hp, Option.elim, Pa.enc]
    try simp (disch := first | omega | (simp only [PL]; omega)) only [PS, P1, P2, P3, P4, P5, P6, P7, P8, PA, PB, PC, Nat.reduceAdd, Nat.reduceSub, Nat.reduceMul, Nat.reduceLeDiff, Nat.reduceEqDiff, Nat.succ_ne_self, reduceCtorEq, Int.reduceToNat, Int.cast_ofNat_Int, Int.reduceEq, Int.reduceNe, Int.reduceLT, Int.reduceLE]
    refine i_newO fun b h1 hle1 hb ho => ?_
    try simp (disch := first | omega | (simp only [PL]; omega)) only [PS, P1, P2, P3, P4, P5, P6, P7, P8, PA, PB, PC, Nat.reduceAdd, Nat.reduceSub, Nat.reduceMul, Nat.reduceLeDiff, Nat.reduceEqDiff, Nat.succ_ne_self, reduceCtorEq, Int.reduceToNat, Int.cast_ofNat_Int, Int.reduceEq, Int.reduceNe, Int.reduceLT, Int.reduceLE]
    refine i_st (ho.le (fr_le h h1)) 0 4 rfl rfl (by omega) (Nat.le_refl 4) fun o hob _ => ?_
    have hob2 : objAt (h1.set b o) ⟨b, 0, none⟩ [.int .i64 a.cb, .int .i64 a.cd, .int .i64 a.rb, .int .i64 a.rd] := hob h1 rfl
    have hle2 : Heap.le h (h1.set b o) := by
      intro x ob hx
      have : x ≠ b := by intro e; subst e; rw [hb] at hx; cases hx
      rw [Heap.set_ne this]; exact hle1 x ob hx
    generalize h1.set b o = h2 at *
    have B1 : h2.cell ((⟨b, 0, none⟩ : Addr).add 1) = some (.int .i64 a.cd) := hob2.rules.1 1 (by simp)
    have B3 := fun h3 (hl : Heap.le h2 h3) => ((hob2.le hl).rules.1 3 (by simp) : h3.cell ((⟨b, 0, none⟩ : Addr).add 3) = some (.int .i64 a.rd))
    have hpa := partsOf_some hp
    try simp (disch := first | omega | (simp only [PL]; omega)) only [PS, P1, P2, P3, P4, P5, P6, P7, P8, PA, PB, PC, Nat.reduceAdd, Nat.reduceSub, Nat.reduceMul, Nat.reduceLeDiff, Nat.reduceEqDiff, Nat.succ_ne_self, reduceCtorEq, Int.reduceToNat, Int.cast_ofNat_Int, Int.reduceEq, Int.reduceNe, Int.reduceLT, Int.reduceLE]
    refine i_cond (fun c1 => ?_) (fun c1 => ?_)
    · have := hK h2 hle2
      rw [fault_bad (hbad.2 (by omega))] at this
      try simp (disch := first | omega | (simp only [PL]; omega)) only [PS, P1, P2, P3, P4, P5, P6, P7, P8, PA, PB, PC, Nat.reduceAdd, Nat.reduceSub, Nat.reduceMul, Nat.reduceLeDiff, Nat.reduceEqDiff, Nat.succ_ne_self, reduceCtorEq, Int.reduceToNat, Int.cast_ofNat_Int, Int.reduceEq, Int.reduceNe, Int.reduceLT, Int.reduceLE]
      exact this
    have hbad2 : t.bad ↔ (t.company < 0 ∨ (10 ^ a.cd : Nat) ≤ t.company ∨ t.ref < 0 ∨ (10 ^ a.rd : Nat) ≤ t.ref) := by rw [hbad]; omega
    clear hbad
    try simp (disch := first | omega | (simp only [PL]; omega)) only [PS, P1, P2, P3, P4, P5, P6, P7, P8, PA, PB, PC, Nat.reduceAdd, Nat.reduceSub, Nat.reduceMul, Nat.reduceLeDiff, Nat.reduceEqDiff, Nat.succ_ne_self, reduceCtorEq, Int.reduceToNat, Int.cast_ofNat_Int, Int.reduceEq, Int.reduceNe, Int.reduceLT, Int.reduceLE, B1]
    by_cases hc0 : t.company < 0
    · have hc1 : (t.company < 0) = True := by simpa using hc0
      try simp (disch := first | omega | (simp only [PL]; omega)) only [PS, P1, P2, P3, P4, P5, P6, P7, P8, PA, PB, PC, Nat.reduceAdd, Nat.reduceSub, Nat.reduceMul, Nat.reduceLeDiff, Nat.reduceEqDiff, Nat.succ_ne_self, reduceCtorEq, Int.reduceToNat, Int.cast_ofNat_Int, Int.reduceEq, Int.reduceNe, Int.reduceLT, Int.reduceLE, hc1]
      refine i_le (le_one (Heap.le.refl _)) ?_
      try simp (disch := first | omega | (simp only [PL]; omega)) only [PS, P1, P2, P3, P4, P5, P6, P7, P8, PA, PB, PC, Nat.reduceAdd, Nat.reduceSub, Nat.reduceMul, Nat.reduceLeDiff, Nat.reduceEqDiff, Nat.succ_ne_self, reduceCtorEq, Int.reduceToNat, Int.cast_ofNat_Int, Int.reduceEq, Int.reduceNe, Int.reduceLT, Int.reduceLE]
      refine i_le (le_two (Heap.le.refl _) (Heap.le.refl _)) ?_
      have := hK h2 hle2
      rw [fault_bad (hbad2.2 (by omega))] at this
      try simp (disch := first | omega | (simp only [PL]; omega)) only [PS, P1, P2, P3, P4, P5, P6, P7, P8, PA, PB, PC, Nat.reduceAdd, Nat.reduceSub, Nat.reduceMul, Nat.reduceLeDiff, Nat.reduceEqDiff, Nat.succ_ne_self, reduceCtorEq, Int.reduceToNat, Int.cast_ofNat_Int, Int.reduceEq, Int.reduceNe, Int.reduceLT, Int.reduceLE]
      exact this
    · have hc1 : (t.company < 0) = False := by simpa using hc0
      obtain ⟨nc, hnc⟩ : ∃ n : Nat, t.company = n := ⟨t.company.toNat, by omega⟩
      rw [hnc] at hc hc1 hbad2 ⊢
      have hdc := dec_le_iff (n := nc) (show 0 < a.cd by omega)
      have haa : ∀ h (k : IntKind), o2V h (.aadr 4 1) (.v (.pointer (some ⟨b, 0, none⟩))) (.v (.int k 1)) = some (.v (.pointer (some ((⟨b, 0, none⟩ : Addr).add 1)))) := fun h k => rfl
      have haa3 : ∀ h (k : IntKind), o2V h (.aadr 4 1) (.v (.pointer (some ⟨b, 0, none⟩))) (.v (.int k 3)) = some (.v (.pointer (some ((⟨b, 0, none⟩ : Addr).add 3)))) := fun h k => rfl
      try simp (disch := first | omega | (simp only [PL]; omega)) only [PS, P1, P2, P3, P4, P5, P6, P7, P8, PA, PB, PC, Nat.reduceAdd, Nat.reduceSub, Nat.reduceMul, Nat.reduceLeDiff, Nat.reduceEqDiff, Nat.succ_ne_self, reduceCtorEq, Int.reduceToNat, Int.cast_ofNat_Int, Int.reduceEq, Int.reduceNe, Int.reduceLT, Int.reduceLE, hc1, haa, B1]
      refine i_call H85 ⟨nc, rfl, by omega, fun h3 hle3 => ?_⟩
      have B3' := B3 h3 hle3
      refine i_le (le_one hle3) ?_
      by_cases hbad3 : 10 ^ a.cd ≤ nc ∨ t.ref < 0
      · have hcond : (((a.cd : Int) < ((dec nc).length : Int)) ∨ t.ref < 0) = True := by
          rw [eq_iff_iff]; simp only [iff_true]
          rcases hbad3 with h | h
          · exact .inl (by have := mt hdc.1 (by omega); omega)
          · exact .inr h
        try simp (disch := first | omega | (simp only [PL]; omega)) only [PS, P1, P2, P3, P4, P5, P6, P7, P8, PA, PB, PC, Nat.reduceAdd, Nat.reduceSub, Nat.reduceMul, Nat.reduceLeDiff, Nat.reduceEqDiff, Nat.succ_ne_self, reduceCtorEq, Int.reduceToNat, Int.cast_ofNat_Int, Int.reduceEq, Int.reduceNe, Int.reduceLT, Int.reduceLE, hcond]
        refine i_le (le_two (Heap.le.refl _) hle3) ?_
        have := hK h3 (hle2.trans hle3)
        rw [fault_bad (hbad2.2 (by omega))] at this
        try simp (disch := first | omega | (simp only [PL]; omega)) only [PS, P1, P2, P3, P4, P5, P6, P7, P8, PA, PB, PC, Nat.reduceAdd, Nat.reduceSub, Nat.reduceMul, Nat.reduceLeDiff, Nat.reduceEqDiff, Nat.succ_ne_self, reduceCtorEq, Int.reduceToNat, Int.cast_ofNat_Int, Int.reduceEq, Int.reduceNe, Int.reduceLT, Int.reduceLE]
        exact this
      · have hcond : (((a.cd : Int) < ((dec nc).length : Int)) ∨ t.ref < 0) = False := by
          rw [eq_iff_iff]; simp only [iff_false]
          rintro (h | h)
          · exact absurd (hdc.2 (by omega)) (by omega)
          · omega
        obtain ⟨nr, hnr⟩ : ∃ n : Nat, t.ref = n := ⟨t.ref.toNat, by omega⟩
        rw [hnr] at hr hcond hbad2 ⊢
        have hdr := dec_le_iff (n := nr) (show 0 < a.rd by omega)
        try simp (disch := first | omega | (simp only [PL]; omega)) only [PS, P1, P2, P3, P4, P5, P6, P7, P8, PA, PB, PC, Nat.reduceAdd, Nat.reduceSub, Nat.reduceMul, Nat.reduceLeDiff, Nat.reduceEqDiff, Nat.succ_ne_self, reduceCtorEq, Int.reduceToNat, Int.cast_ofNat_Int, Int.reduceEq, Int.reduceNe, Int.reduceLT, Int.reduceLE, hcond, haa3, B3']
        refine i_call H85 ⟨nr, rfl, by omega, fun h4 hle4 => ?_⟩
        refine i_le (le_two hle4 (hle3.trans hle4)) ?_
        try simp (disch := first | omega | (simp only [PL]; omega)) only [PS, P1, P2, P3, P4, P5, P6, P7, P8, PA, PB, PC, Nat.reduceAdd, Nat.reduceSub, Nat.reduceMul, Nat.reduceLeDiff, Nat.reduceEqDiff, Nat.succ_ne_self, reduceCtorEq, Int.reduceToNat, Int.cast_ofNat_Int, Int.reduceEq, Int.reduceNe, Int.reduceLT, Int.reduceLE]
        refine i_cond (fun c2 => ?_) (fun c2 => ?_)
        · have := hK h4 (hle2.trans (hle3.trans hle4))
          rw [fault_bad (hbad2.2 (by have := mt hdr.2 (by omega); omega))] at this
          try simp (disch := first | omega | (simp only [PL]; omega)) only [PS, P1, P2, P3, P4, P5, P6, P7, P8, PA, PB, PC, Nat.reduceAdd, Nat.reduceSub, Nat.reduceMul, Nat.reduceLeDiff, Nat.reduceEqDiff, Nat.succ_ne_self, reduceCtorEq, Int.reduceToNat, Int.cast_ofNat_Int, Int.reduceEq, Int.reduceNe, Int.reduceLT, Int.reduceLE]
          exact this
        · have := hK h4 (hle2.trans (hle3.trans hle4))
          rw [fault_ok (fun h => by have := hbad2.1 h; have := hdr.1 (by omega); omega)] at this
          try simp (disch := first | omega | (simp only [PL]; omega)) only [PS, P1, P2, P3, P4, P5, P6, P7, P8, PA, PB, PC, Nat.reduceAdd, Nat.reduceSub, Nat.reduceMul, Nat.reduceLeDiff, Nat.reduceEqDiff, Nat.succ_ne_self, reduceCtorEq, Int.reduceToNat, Int.cast_ofNat_Int, Int.reduceEq, Int.reduceNe, Int.reduceLT, Int.reduceLE]
          exact this
end Go.Cw
namespace Go.Cw
open Go

def S108 (N : Num) : Spec := fun args h K => ∃ t : Tg, args = [aggT t] ∧ ∀ h', Heap.le h h' → K (errV N (faultT t)) h'
theorem F108_ok {N : Num} {Γ : Ctx} [GoodC Γ] (H107 : Sat S107 (Γ 107)) (H117 : Sat S117 (Γ 117)) : Sat (S108 N) (SF N Γ F108) := by
  rintro _ h K ⟨t, rfl, hK⟩
  have hK1 : t.bad → ∀ h', Heap.le h h' → K (.iface (N.tid 111) (.int .i64 1)) h' := fun hb h' hl => by have := hK h' hl; rw [fault_bad hb, errV_succ] at this; exact this
  have hK0 : ¬ t.bad → ∀ h', Heap.le h h' → K .nilIface h' := fun hb h' hl => by have := hK h' hl; rw [fault_ok hb] at this; exact this
  clear hK
  refine i_fun rfl ?_
  simp only [F108, env0, List.map, List.length, List.replicate, List.cons_append, List.nil_append, Nat.reduceSub, Nat.reduceAdd, aggT]
  have hsome := fun a => Tg.bad_some (t := t) (a := a)
  try simp (disch := first | omega | (simp only [PL]; omega)) only [PS, P1, P2, P3, P4, P5, P6, P7, P8, PA, PB, PC, Nat.reduceAdd, Nat.reduceSub, Nat.reduceMul, Nat.reduceLeDiff, Nat.reduceEqDiff, Nat.succ_ne_self, reduceCtorEq, Int.reduceToNat, Int.cast_ofNat_Int, Int.reduceEq, Int.reduceNe, Int.reduceLT, Int.reduceLE]
  refine i_cond (fun c1 => ?_) (fun c1 => ?_)
  · try simp (disch := first | omega | (simp only [PL]; omega)) only [PS, P1, P2, P3, P4, P5, P6, P7, P8, PA, PB, PC, Nat.reduceAdd, Nat.reduceSub, Nat.reduceMul, Nat.reduceLeDiff, Nat.reduceEqDiff, Nat.succ_ne_self, reduceCtorEq, Int.reduceToNat, Int.cast_ofNat_Int, Int.reduceEq, Int.reduceNe, Int.reduceLT, Int.reduceLE]
    refine hK1 ?_ h (Heap.le.refl h)
    cases hp : partsOf t.part with
    | none => exact Tg.bad_none hp
    | some a => exact (hsome a hp).2 (by omega)
  try simp (disch := first | omega | (simp only [PL]; omega)) only [PS, P1, P2, P3, P4, P5, P6, P7, P8, PA, PB, PC, Nat.reduceAdd, Nat.reduceSub, Nat.reduceMul, Nat.reduceLeDiff, Nat.reduceEqDiff, Nat.succ_ne_self, reduceCtorEq, Int.reduceToNat, Int.cast_ofNat_Int, Int.reduceEq, Int.reduceNe, Int.reduceLT, Int.reduceLE]
  refine i_call H107 ⟨t.part, rfl, fun h1 hle1 => ?_⟩
  cases hp : partsOf t.part with
  | none =>
    simp only [paV, hp, Option.elim]
    try simp (disch := first | omega | (simp only [PL]; omega)) only [PS, P1, P2, P3, P4, P5, P6, P7, P8, PA, PB, PC, Nat.reduceAdd, Nat.reduceSub, Nat.reduceMul, Nat.reduceLeDiff, Nat.reduceEqDiff, Nat.succ_ne_self, reduceCtorEq, Int.reduceToNat, Int.cast_ofNat_Int, Int.reduceEq, Int.reduceNe, Int.reduceLT, Int.reduceLE]
    refine i_le (le_one (Heap.le.refl _)) ?_
    try simp (disch := first | omega | (simp only [PL]; omega)) only [PS, P1, P2, P3, P4, P5, P6, P7, P8, PA, PB, PC, Nat.reduceAdd, Nat.reduceSub, Nat.reduceMul, Nat.reduceLeDiff, Nat.reduceEqDiff, Nat.succ_ne_self, reduceCtorEq, Int.reduceToNat, Int.cast_ofNat_Int, Int.reduceEq, Int.reduceNe, Int.reduceLT, Int.reduceLE]
    refine i_le (le_two (Heap.le.refl _) (Heap.le.refl _)) ?_
    try simp (disch := first | omega | (simp only [PL]; omega)) only [PS, P1, P2, P3, P4, P5, P6, P7, P8, PA, PB, PC, Nat.reduceAdd, Nat.reduceSub, Nat.reduceMul, Nat.reduceLeDiff, Nat.reduceEqDiff, Nat.succ_ne_self, reduceCtorEq, Int.reduceToNat, Int.cast_ofNat_Int, Int.reduceEq, Int.reduceNe, Int.reduceLT, Int.reduceLE]
    exact hK1 (Tg.bad_none hp) h1 hle1
  | some a =>
    have hbad := hsome a hp
    have hpa := partsOf_some hp
    have hp18 : a.cd ≤ 18 ∧ a.rd ≤ 18 := by omega
    simp only [paV, hp, Option.elim, Pa.enc]
    by_cases hc0 : t.company < 0
    · have hc1 : (t.company < 0) = True := by simpa using hc0
      try simp (disch := first | omega | (simp only [PL]; omega)) only [PS, P1, P2, P3, P4, P5, P6, P7, P8, PA, PB, PC, Nat.reduceAdd, Nat.reduceSub, Nat.reduceMul, Nat.reduceLeDiff, Nat.reduceEqDiff, Nat.succ_ne_self, reduceCtorEq, Int.reduceToNat, Int.cast_ofNat_Int, Int.reduceEq, Int.reduceNe, Int.reduceLT, Int.reduceLE, hc1]
      refine i_le (le_one (Heap.le.refl _)) ?_
      try simp (disch := first | omega | (simp only [PL]; omega)) only [PS, P1, P2, P3, P4, P5, P6, P7, P8, PA, PB, PC, Nat.reduceAdd, Nat.reduceSub, Nat.reduceMul, Nat.reduceLeDiff, Nat.reduceEqDiff, Nat.succ_ne_self, reduceCtorEq, Int.reduceToNat, Int.cast_ofNat_Int, Int.reduceEq, Int.reduceNe, Int.reduceLT, Int.reduceLE]
      refine i_le (le_two (Heap.le.refl _) (Heap.le.refl _)) ?_
      try simp (disch := first | omega | (simp only [PL]; omega)) only [PS, P1, P2, P3, P4, P5, P6, P7, P8, PA, PB, PC, Nat.reduceAdd, Nat.reduceSub, Nat.reduceMul, Nat.reduceLeDiff, Nat.reduceEqDiff, Nat.succ_ne_self, reduceCtorEq, Int.reduceToNat, Int.cast_ofNat_Int, Int.reduceEq, Int.reduceNe, Int.reduceLT, Int.reduceLE]
      exact hK1 (hbad.2 (by omega)) h1 hle1
    · have hc1 : (t.company < 0) = False := by simpa using hc0
      try simp (disch := first | omega | (simp only [PL]; omega)) only [PS, P1, P2, P3, P4, P5, P6, P7, P8, PA, PB, PC, Nat.reduceAdd, Nat.reduceSub, Nat.reduceMul, Nat.reduceLeDiff, Nat.reduceEqDiff, Nat.succ_ne_self, reduceCtorEq, Int.reduceToNat, Int.cast_ofNat_Int, Int.reduceEq, Int.reduceNe, Int.reduceLT, Int.reduceLE, hc1]
      refine i_call H117 ⟨a.cd, rfl, hp18.1, ?_⟩
      refine i_le (le_one (Heap.le.refl _)) ?_
      by_cases hb3 : ((10 ^ a.cd : Nat) : Int) ≤ t.company ∨ t.ref < 0
      · have hcond : (((10 ^ a.cd : Nat) : Int) ≤ t.company ∨ t.ref < 0) = True := by simpa using hb3
        try simp (disch := first | omega | (simp only [PL]; omega)) only [PS, P1, P2, P3, P4, P5, P6, P7, P8, PA, PB, PC, Nat.reduceAdd, Nat.reduceSub, Nat.reduceMul, Nat.reduceLeDiff, Nat.reduceEqDiff, Nat.succ_ne_self, reduceCtorEq, Int.reduceToNat, Int.cast_ofNat_Int, Int.reduceEq, Int.reduceNe, Int.reduceLT, Int.reduceLE, hcond]
        refine i_le (le_two (Heap.le.refl _) (Heap.le.refl _)) ?_
        try simp (disch := first | omega | (simp only [PL]; omega)) only [PS, P1, P2, P3, P4, P5, P6, P7, P8, PA, PB, PC, Nat.reduceAdd, Nat.reduceSub, Nat.reduceMul, Nat.reduceLeDiff, Nat.reduceEqDiff, Nat.succ_ne_self, reduceCtorEq, Int.reduceToNat, Int.cast_ofNat_Int, Int.reduceEq, Int.reduceNe, Int.reduceLT, Int.reduceLE]
        exact hK1 (hbad.2 (by omega)) h1 hle1
      · have hcond : (((10 ^ a.cd : Nat) : Int) ≤ t.company ∨ t.ref < 0) = False := by simpa using hb3
        try simp (disch := first | omega | (simp only [PL]; omega)) only [PS, P1, P2, P3, P4, P5, P6, P7, P8, PA, PB, PC, Nat.reduceAdd, Nat.reduceSub, Nat.reduceMul, Nat.reduceLeDiff, Nat.reduceEqDiff, Nat.succ_ne_self, reduceCtorEq, Int.reduceToNat, Int.cast_ofNat_Int, Int.reduceEq, Int.reduceNe, Int.reduceLT, Int.reduceLE, hcond]
        refine i_call H117 ⟨a.rd, rfl, hp18.2, ?_⟩
        refine i_le (le_two (Heap.le.refl _) (Heap.le.refl _)) ?_
        try simp (disch := first | omega | (simp only [PL]; omega)) only [PS, P1, P2, P3, P4, P5, P6, P7, P8, PA, PB, PC, Nat.reduceAdd, Nat.reduceSub, Nat.reduceMul, Nat.reduceLeDiff, Nat.reduceEqDiff, Nat.succ_ne_self, reduceCtorEq, Int.reduceToNat, Int.cast_ofNat_Int, Int.reduceEq, Int.reduceNe, Int.reduceLT, Int.reduceLE]
        refine i_cond (fun c2 => ?_) (fun c2 => ?_)
        · try simp (disch := first | omega | (simp only [PL]; omega)) only [PS, P1, P2, P3, P4, P5, P6, P7, P8, PA, PB, PC, Nat.reduceAdd, Nat.reduceSub, Nat.reduceMul, Nat.reduceLeDiff, Nat.reduceEqDiff, Nat.succ_ne_self, reduceCtorEq, Int.reduceToNat, Int.cast_ofNat_Int, Int.reduceEq, Int.reduceNe, Int.reduceLT, Int.reduceLE]
          exact hK1 (hbad.2 (by omega)) h1 hle1
        · try simp (disch := first | omega | (simp only [PL]; omega)) only [PS, P1, P2, P3, P4, P5, P6, P7, P8, PA, PB, PC, Nat.reduceAdd, Nat.reduceSub, Nat.reduceMul, Nat.reduceLeDiff, Nat.reduceEqDiff, Nat.succ_ne_self, reduceCtorEq, Int.reduceToNat, Int.cast_ofNat_Int, Int.reduceEq, Int.reduceNe, Int.reduceLT, Int.reduceLE]
          exact hK0 (fun h => by have := hbad.1 h; omega) h1 hle1
end Go.Cw
namespace Go.Cw
open Go

theorem shr_nat (k k' : IntKind) (x s : Nat) (hs : s ≤ k.bits) : binV .shr (.int k (x : Int)) (.int k' (s : Int)) = some (.int k ((x / 2 ^ s : Nat) : Int)) := by
  simp only [binV, shiftV]
  rw [if_neg (by omega), Int.toNat_natCast, show Nat.min s k.bits = s from Nat.min_eq_left hs]
  have h1 : (x : Int).fdiv (2 ^ s) = ((x / 2 ^ s : Nat) : Int) := by
    rw [Int.fdiv_eq_ediv_of_nonneg _ (Int.le_of_lt (Int.pow_pos (by omega)))]
    simp
  rw [h1]
theorem wrap_u64 (n : Nat) (h : n < 2 ^ 64) : IntKind.u64.wrap (n : Int) = (n : Int) := by
  simp only [IntKind.wrap, IntKind.bits, IntKind.signed]
  simp; omega
theorem shl_nat (k' : IntKind) (x s : Nat) (hs : s ≤ 64) (hx : x * 2 ^ s < 2 ^ 64) : binV .shl (.int .u64 (x : Int)) (.int k' (s : Int)) = some (.int .u64 ((x * 2 ^ s : Nat) : Int)) := by
  simp only [binV, shiftV]
  rw [if_neg (by omega), Int.toNat_natCast, show Nat.min s IntKind.u64.bits = s from Nat.min_eq_left hs]
  have h1 : (x : Int) * 2 ^ s = ((x * 2 ^ s : Nat) : Int) := by simp
  rw [h1, wrap_u64 _ hx]
theorem bits_nat (n x : Nat) (h : x < 2 ^ n) : (BitVec.ofInt n (x : Int)).toNat = x := by
  simp [Nat.mod_eq_of_lt h]
theorem and_u64 (x y : Nat) (hx : x < 2 ^ 64) (hy : y < 2 ^ 64) : binV .and (.int .u64 (x : Int)) (.int .u64 (y : Int)) = some (.int .u64 ((x &&& y : Nat) : Int)) := by
  have hb : (BitVec.ofInt IntKind.u64.bits (x : Int) &&& BitVec.ofInt IntKind.u64.bits (y : Int)).toNat = x &&& y := by rw [BitVec.toNat_and, bits_nat IntKind.u64.bits x hx, bits_nat IntKind.u64.bits y hy]
  simp only [binV, intV, if_true]
  rw [hb, wrap_u64 _ (Nat.lt_of_le_of_lt Nat.and_le_left hx)]
theorem or_u64 (x y : Nat) (hx : x < 2 ^ 64) (hy : y < 2 ^ 64) : binV .or (.int .u64 (x : Int)) (.int .u64 (y : Int)) = some (.int .u64 ((x ||| y : Nat) : Int)) := by
  have hb : (BitVec.ofInt IntKind.u64.bits (x : Int) ||| BitVec.ofInt IntKind.u64.bits (y : Int)).toNat = x ||| y := by rw [BitVec.toNat_or, bits_nat IntKind.u64.bits x hx, bits_nat IntKind.u64.bits y hy]
  simp only [binV, intV, if_true]
  rw [hb, wrap_u64 _ (Nat.or_lt_two_pow hx hy)]
theorem and_u8 (x y : Nat) (hx : x < 2 ^ 8) (hy : y < 2 ^ 8) : binV .and (.int .u8 (x : Int)) (.int .u8 (y : Int)) = some (.int .u8 ((x &&& y : Nat) : Int)) := by
  have hb : (BitVec.ofInt IntKind.u8.bits (x : Int) &&& BitVec.ofInt IntKind.u8.bits (y : Int)).toNat = x &&& y := by rw [BitVec.toNat_and, bits_nat IntKind.u8.bits x hx, bits_nat IntKind.u8.bits y hy]
  simp only [binV, intV, if_true]
  have : x &&& y < 2 ^ 8 := Nat.lt_of_le_of_lt Nat.and_le_left hx
  rw [hb, w8', show ((x &&& y : Nat) : Int) % 256 = ((x &&& y : Nat) : Int) from by omega]

/-- what else lies in memory stays, but for one block -/
def but (b : Nat) (h h' : Heap) : Prop := ∀ x, x ≠ b → h' x = h x
theorem but.le {b : Nat} {h0 h h' : Heap} (hl : Heap.le h0 h) (hn : h0 b = none) (hb : but b h h') : Heap.le h0 h' := by
  intro x o hx
  have : x ≠ b := by intro e; subst e; rw [hn] at hx; cases hx
  rw [hb x this]; exact hl x o hx
theorem but.cell {b : Nat} {h h' : Heap} (hb : but b h h') {a : Addr} (ha : a.block ≠ b) : h'.cell a = h.cell a := by
  simp only [Heap.cell, Heap.cells, hb _ ha]

def S127 : Spec := fun args h K => ∃ bb ba b, ∃ at_ many : Nat, args = [.int .i64 many, .pointer (some ⟨bb, 0, none⟩), .pointer (some ⟨ba, 0, none⟩)] ∧ h.cell ⟨bb, 0, none⟩ = some (.string (str b)) ∧ objAt h ⟨ba, 0, none⟩ [.int .i64 at_] ∧ bb ≠ ba ∧ b.length = 8 ∧ at_ + many ≤ 64 ∧ many ≤ 30 ∧
  ∀ h', but ba h h' → objAt h' ⟨ba, 0, none⟩ [.int .i64 (at_ + many : Nat)] → K (.int .i64 (rdBits b at_ many : Nat)) h'
theorem rdBits_lt (b : List UInt8) (at_ : Nat) : ∀ k, rdBits b at_ k < 2 ^ k := by
  intro k
  induction k with
  | zero => simp [rdBits]
  | succ k ih => rw [rdBits, Nat.pow_succ]; have : bitAt b (at_ + k) < 2 := Nat.mod_lt _ (by omega); omega
theorem F127_ok {N : Num} {Γ : Ctx} [GoodC Γ] : Sat S127 (SF N Γ F127) := by
  rintro _ h K ⟨bb, ba, b, at_, many, rfl, hb, hat, hne, hlen, hm, hm30, hK⟩
  refine i_fun rfl ?_
  simp only [F127, env0, List.map, List.length, List.replicate, List.cons_append, List.nil_append, Nat.reduceSub, Nat.reduceAdd]
  try simp (disch := first | omega | (simp only [PL]; omega)) only [PS, P1, P2, P3, P4, P5, P6, P7, P8, PA, PB, PC, Nat.reduceAdd, Nat.reduceSub, Nat.reduceMul, Nat.reduceLeDiff, Nat.reduceEqDiff, Nat.succ_ne_self, reduceCtorEq, Int.reduceToNat, Int.cast_ofNat_Int, Int.reduceEq, Int.reduceNe, Int.reduceLT, Int.reduceLE]
  refine i_loop (fun i : Nat => [some (.int .i64 many), some (.pointer (some ⟨bb, 0, none⟩)), some (.pointer (some ⟨ba, 0, none⟩)), some (.int .i64 0), some (.int .i64 (rdBits b at_ i : Nat)), some (.int .i64 i), none])
    (fun i h1 => i ≤ many ∧ but ba h h1 ∧ objAt h1 ⟨ba, 0, none⟩ [.int .i64 (at_ + i : Nat)]) (fun i => many - i) 0 (by try simp only [Pe, and_true, true_and, and_self]; exact ⟨rfl, rfl⟩) ⟨by omega, fun _ _ => rfl, hat⟩ ?_
  rintro i h1 ⟨hi, hbut, ho⟩
  have hb1 : h1.cell ⟨bb, 0, none⟩ = some (.string (str b)) := (hbut.cell hne).trans hb
  have ha1 : h1.cell ⟨ba, 0, none⟩ = some (.int .i64 (at_ + i : Nat)) := ho.rules.2.1 (by simp)
  try simp (disch := first | omega | (simp only [PL]; omega)) only [PS, P1, P2, P3, P4, P5, P6, P7, P8, PA, PB, PC, Nat.reduceAdd, Nat.reduceSub, Nat.reduceMul, Nat.reduceLeDiff, Nat.reduceEqDiff, Nat.succ_ne_self, reduceCtorEq, Int.reduceToNat, Int.cast_ofNat_Int, Int.reduceEq, Int.reduceNe, Int.reduceLT, Int.reduceLE]
  refine i_cond (fun c1 => ?_) (fun c1 => ?_)
  rotate_left
  · have : i = many := by omega
    subst this
    try simp (disch := first | omega | (simp only [PL]; omega)) only [PS, P1, P2, P3, P4, P5, P6, P7, P8, PA, PB, PC, Nat.reduceAdd, Nat.reduceSub, Nat.reduceMul, Nat.reduceLeDiff, Nat.reduceEqDiff, Nat.succ_ne_self, reduceCtorEq, Int.reduceToNat, Int.cast_ofNat_Int, Int.reduceEq, Int.reduceNe, Int.reduceLT, Int.reduceLE]
    exact hK h1 hbut ho
  have hq : IntKind.i64.wrap (((at_ + i : Nat) : Int).tdiv 8) = (((at_ + i) / 8 : Nat) : Int) := by
    rw [show ((at_ + i : Nat) : Int).tdiv 8 = (((at_ + i) / 8 : Nat) : Int) from by rw [Int.tdiv_eq_ediv_of_nonneg (by omega)]; omega, w64 (by omega) (by omega)]
  have hr : IntKind.i64.wrap (((at_ + i : Nat) : Int).tmod 8) = (((at_ + i) % 8 : Nat) : Int) := by
    rw [show ((at_ + i : Nat) : Int).tmod 8 = (((at_ + i) % 8 : Nat) : Int) from by rw [Int.tmod_eq_emod_of_nonneg (by omega)]; omega, w64 (by omega) (by omega)]
  have hr' : ((at_ + i : Nat) : Int).tmod 8 = (((at_ + i) % 8 : Nat) : Int) := by rw [Int.tmod_eq_emod_of_nonneg (by omega)]; omega
  have hw7 : IntKind.i64.wrap (7 - (((at_ + i) % 8 : Nat) : Int)) = ((7 - (at_ + i) % 8 : Nat) : Int) := by rw [w64 (by omega) (by omega)]; omega
  have hbyte := (b.getD ((at_ + i) / 8) 0).toNat_lt
  have hsh := shr_nat .u8 .i64 (b.getD ((at_ + i) / 8) 0).toNat (7 - (at_ + i) % 8) (by simp [IntKind.bits]; omega)
  have hdl : (b.getD ((at_ + i) / 8) 0).toNat / 2 ^ (7 - (at_ + i) % 8) < 256 := Nat.lt_of_le_of_lt (Nat.div_le_self _ _) (by omega)
  have han := and_u8 ((b.getD ((at_ + i) / 8) 0).toNat / 2 ^ (7 - (at_ + i) % 8)) 1 (by omega) (by omega)
  rw [Nat.and_one_is_mod] at han
  have hand : binV .and (.int .u8 (((b.getD ((at_ + i) / 8) 0).toNat / 2 ^ (7 - (at_ + i) % 8) : Nat) : Int)) (.int .u8 1) = some (.int .u8 ((bitAt b (at_ + i) : Nat) : Int)) := han
  have hbl : bitAt b (at_ + i) < 2 := Nat.mod_lt _ (by omega)
  have hrl : rdBits b at_ i < 1073741824 := Nat.lt_of_lt_of_le (rdBits_lt b at_ i) (Nat.pow_le_pow_right (n := 2) (by omega) (show i ≤ 30 by omega))
  try simp (disch := first | omega | (simp only [PL]; omega)) only [PS, P1, P2, P3, P4, P5, P6, P7, P8, PA, PB, PC, Nat.reduceAdd, Nat.reduceSub, Nat.reduceMul, Nat.reduceLeDiff, Nat.reduceEqDiff, Nat.succ_ne_self, reduceCtorEq, Int.reduceToNat, Int.cast_ofNat_Int, Int.reduceEq, Int.reduceNe, Int.reduceLT, Int.reduceLE, hb1, ha1, hq, hr, hr', hw7, hsh, hand]
  refine i_st ho 0 1 rfl rfl (by omega) (by simp) fun o hob _ => ?_
  have hob2 : objAt (h1.set ba o) ⟨ba, 0, none⟩ [.int .i64 (at_ + i + 1 : Nat)] := hob h1 rfl
  try simp (disch := first | omega | (simp only [PL]; omega)) only [PS, P1, P2, P3, P4, P5, P6, P7, P8, PA, PB, PC, Nat.reduceAdd, Nat.reduceSub, Nat.reduceMul, Nat.reduceLeDiff, Nat.reduceEqDiff, Nat.succ_ne_self, reduceCtorEq, Int.reduceToNat, Int.cast_ofNat_Int, Int.reduceEq, Int.reduceNe, Int.reduceLT, Int.reduceLE]
  refine k_loop (i + 1) (by omega) (by try simp only [Pe, and_true, true_and, and_self]; rfl) ⟨by omega, fun x hx => ?_, hob2⟩
  rw [Heap.set_ne hx]; exact hbut x hx
end Go.Cw
namespace Go.Cw
open Go

def tgV (b : List UInt8) : Value := aggT ((tagOf b).getD Tg.zero)
def S110 : Spec := fun args h K => ∃ b, args = [.string (str b)] ∧ ∀ h', Heap.le h h' → K (.tuple #[tgV b, .bool (tagOf b).isSome]) h'
theorem but.obj {b : Nat} {h h' : Heap} (hb : but b h h') {a : Addr} {cs : List Value} (ha : a.block ≠ b) (ho : objAt h a cs) : objAt h' a cs := by
  obtain ⟨h1, c, t, h2, h3⟩ := ho
  exact ⟨h1, c, t, by rw [hb _ ha]; exact h2, h3⟩
theorem objAt.nn {g : Heap} {a : Addr} {cs : List Value} (h : objAt g a cs) : g a.block ≠ none := by
  obtain ⟨_, c, t, h1, _⟩ := h; rw [h1]; simp
theorem F110_ok {N : Num} {Γ : Ctx} [GoodC Γ] (H127 : Sat S127 (Γ 127)) (H79 : Sat S79 (Γ 79)) (H128 : Sat S128 (Γ 128)) : Sat S110 (SF N Γ F110) := by
  rintro _ h K ⟨b, rfl, hK⟩
  refine i_fun rfl ?_
  simp only [F110, env0, List.map, List.length, List.replicate, List.cons_append, List.nil_append, Nat.reduceSub, Nat.reduceAdd]
  try simp (disch := first | omega | (simp only [PL]; omega)) only [PS, P1, P2, P3, P4, P5, P6, P7, P8, PA, PB, PC, Nat.reduceAdd, Nat.reduceSub, Nat.reduceMul, Nat.reduceLeDiff, Nat.reduceEqDiff, Nat.succ_ne_self, reduceCtorEq, Int.reduceToNat, Int.cast_ofNat_Int, Int.reduceEq, Int.reduceNe, Int.reduceLT, Int.reduceLE]
  refine i_newO fun b1 h1 hle1 hb1 ho1' => ?_
  have ho1 : objAt (fr h h1) ⟨b1, 0, none⟩ [.string (str b)] := ho1'
  have B1 : h1.cell ⟨b1, 0, none⟩ = some (.string (str b)) := (ho1.le (fr_le _ _)).rules.2.1 (by simp)
  unfold tgV tagOf at hK
  try simp (disch := first | omega | (simp only [PL]; omega)) only [PS, P1, P2, P3, P4, P5, P6, P7, P8, PA, PB, PC, Nat.reduceAdd, Nat.reduceSub, Nat.reduceMul, Nat.reduceLeDiff, Nat.reduceEqDiff, Nat.succ_ne_self, reduceCtorEq, Int.reduceToNat, Int.cast_ofNat_Int, Int.reduceEq, Int.reduceNe, Int.reduceLT, Int.reduceLE, B1]
  by_cases hlen : b.length = 8
  rotate_left
  · have hl : ((b.length : Int) ≠ 8) = True := by rw [eq_iff_iff]; simp; omega
    rw [if_pos hlen] at hK
    simp only [Option.getD, Option.isSome, Tg.zero, aggT] at hK
    try simp (disch := first | omega | (simp only [PL]; omega)) only [PS, P1, P2, P3, P4, P5, P6, P7, P8, PA, PB, PC, Nat.reduceAdd, Nat.reduceSub, Nat.reduceMul, Nat.reduceLeDiff, Nat.reduceEqDiff, Nat.succ_ne_self, reduceCtorEq, Int.reduceToNat, Int.cast_ofNat_Int, Int.reduceEq, Int.reduceNe, Int.reduceLT, Int.reduceLE, hl]
    exact hK h1 hle1
  have hl : ((b.length : Int) ≠ 8) = False := by rw [eq_iff_iff]; simp; omega
  rw [if_neg (by omega)] at hK
  try simp (disch := first | omega | (simp only [PL]; omega)) only [PS, P1, P2, P3, P4, P5, P6, P7, P8, PA, PB, PC, Nat.reduceAdd, Nat.reduceSub, Nat.reduceMul, Nat.reduceLeDiff, Nat.reduceEqDiff, Nat.succ_ne_self, reduceCtorEq, Int.reduceToNat, Int.cast_ofNat_Int, Int.reduceEq, Int.reduceNe, Int.reduceLT, Int.reduceLE, hl]
  refine i_newO fun b4 h2 hle2 hb4 ho4 => ?_
  try simp (disch := first | omega | (simp only [PL]; omega)) only [PS, P1, P2, P3, P4, P5, P6, P7, P8, PA, PB, PC, Nat.reduceAdd, Nat.reduceSub, Nat.reduceMul, Nat.reduceLeDiff, Nat.reduceEqDiff, Nat.succ_ne_self, reduceCtorEq, Int.reduceToNat, Int.cast_ofNat_Int, Int.reduceEq, Int.reduceNe, Int.reduceLT, Int.reduceLE]
  refine i_st (ho4.le (fr_le _ _)) 0 1 rfl rfl (by omega) (Nat.le_refl 1) fun o hob _ => ?_
  have hob4 : objAt (h2.set b4 o) ⟨b4, 0, none⟩ [.int .i64 (0 : Nat)] := hob h2 rfl
  have hne : b1 ≠ b4 := by
    rintro rfl
    exact objAt.nn ((ho1.le (fr_le h h1)).le (Heap.le.refl h1)) hb4
  have hb4h : h b4 = none := le_none hle1 b4 hb4
  have hle3 : Heap.le h (h2.set b4 o) := but.le (b := b4) (hle1.trans hle2) hb4h fun x hx => Heap.set_ne hx
  have hob1 : objAt (h2.set b4 o) ⟨b1, 0, none⟩ [.string (str b)] := but.obj (b := b4) (fun x hx => Heap.set_ne hx) hne ((ho1.le (fr_le _ _)).le hle2)
  generalize h2.set b4 o = h3 at *
  have hnum : ∀ at_ k, at_ + k ≤ 64 → rdBits b at_ k = num b / 2 ^ (64 - at_ - k) % 2 ^ k := fun at_ k hk => rdBits_num hlen at_ k hk
  have hnlt := num_lt b
  rw [hlen] at hnlt
  try simp (disch := first | omega | (simp only [PL]; omega)) only [PS, P1, P2, P3, P4, P5, P6, P7, P8, PA, PB, PC, Nat.reduceAdd, Nat.reduceSub, Nat.reduceMul, Nat.reduceLeDiff, Nat.reduceEqDiff, Nat.succ_ne_self, reduceCtorEq, Int.reduceToNat, Int.cast_ofNat_Int, Int.reduceEq, Int.reduceNe, Int.reduceLT, Int.reduceLE]
  refine i_cal H127 ⟨b1, b4, b, 0, 8, rfl, hob1.rules.2.1 (by simp), hob4, hne, hlen, by omega, by omega, fun h4 hbut4 hob4' => ?_⟩
  have hle4 := hbut4.le hle3 hb4h
  have hob1' := hbut4.obj hne hob1
  have e1 : rdBits b 0 8 = num b / 2 ^ 56 := by rw [hnum 0 8 (by omega)]; exact Nat.mod_eq_of_lt (by omega)
  have hk47 : IntKind.i64.wrap (((num b / 2 ^ 56 : Nat) : Int) - 47) = ((num b / 2 ^ 56 : Nat) : Int) - 47 := by rw [w64 (by omega) (by omega)]
  rw [e1]
  try simp (disch := first | omega | (simp only [PL]; omega)) only [PS, P1, P2, P3, P4, P5, P6, P7, P8, PA, PB, PC, Nat.reduceAdd, Nat.reduceSub, Nat.reduceMul, Nat.reduceLeDiff, Nat.reduceEqDiff, Nat.succ_ne_self, reduceCtorEq, Int.reduceToNat, Int.cast_ofNat_Int, Int.reduceEq, Int.reduceNe, Int.reduceLT, Int.reduceLE, hk47]
  refine i_cal H127 ⟨b1, b4, b, 8, 3, rfl, hob1'.rules.2.1 (by simp), hob4', hne, hlen, by omega, by omega, fun h5 hbut5 hob5 => ?_⟩
  have hle5 := hbut5.le hle4 hb4h
  have hob15 := hbut5.obj hne hob1'
  have e2 : rdBits b 8 3 = num b / 2 ^ 53 % 8 := hnum 8 3 (by omega)
  rw [e2]
  try simp (disch := first | omega | (simp only [PL]; omega)) only [PS, P1, P2, P3, P4, P5, P6, P7, P8, PA, PB, PC, Nat.reduceAdd, Nat.reduceSub, Nat.reduceMul, Nat.reduceLeDiff, Nat.reduceEqDiff, Nat.succ_ne_self, reduceCtorEq, Int.reduceToNat, Int.cast_ofNat_Int, Int.reduceEq, Int.reduceNe, Int.reduceLT, Int.reduceLE]
  refine i_cal H127 ⟨b1, b4, b, 11, 3, rfl, hob15.rules.2.1 (by simp), hob5, hne, hlen, by omega, by omega, fun h6 hbut6 hob6 => ?_⟩
  have hle6 := hbut6.le hle5 hb4h
  have hob16 := hbut6.obj hne hob15
  have e3 : rdBits b 11 3 = num b / 2 ^ 50 % 8 := hnum 11 3 (by omega)
  rw [e3]
  try simp (disch := first | omega | (simp only [PL]; omega)) only [PS, P1, P2, P3, P4, P5, P6, P7, P8, PA, PB, PC, Nat.reduceAdd, Nat.reduceSub, Nat.reduceMul, Nat.reduceLeDiff, Nat.reduceEqDiff, Nat.succ_ne_self, reduceCtorEq, Int.reduceToNat, Int.cast_ofNat_Int, Int.reduceEq, Int.reduceNe, Int.reduceLT, Int.reduceLE]
  refine i_call H79 ⟨_, rfl, ?_⟩
  cases hp : partsOf ((num b / 2 ^ 50 % 8 : Nat) : Int) with
  | none =>
    rw [hp] at hK
    simp only [Option.getD, Option.isSome, Tg.zero, aggT] at hK
    simp only [paV, hp, Option.elim]
    try simp (disch := first | omega | (simp only [PL]; omega)) only [PS, P1, P2, P3, P4, P5, P6, P7, P8, PA, PB, PC, Nat.reduceAdd, Nat.reduceSub, Nat.reduceMul, Nat.reduceLeDiff, Nat.reduceEqDiff, Nat.succ_ne_self, reduceCtorEq, Int.reduceToNat, Int.cast_ofNat_Int, Int.reduceEq, Int.reduceNe, Int.reduceLT, Int.reduceLE]
    refine i_newO fun b7 h7 hle7 hb7 ho7 => ?_
    try simp (disch := first | omega | (simp only [PL]; omega)) only [PS, P1, P2, P3, P4, P5, P6, P7, P8, PA, PB, PC, Nat.reduceAdd, Nat.reduceSub, Nat.reduceMul, Nat.reduceLeDiff, Nat.reduceEqDiff, Nat.succ_ne_self, reduceCtorEq, Int.reduceToNat, Int.cast_ofNat_Int, Int.reduceEq, Int.reduceNe, Int.reduceLT, Int.reduceLE]
    refine i_st (ho7.le (fr_le _ _)) 0 4 rfl rfl (by omega) (Nat.le_refl 4) fun o7 hob7 _ => ?_
    try simp (disch := first | omega | (simp only [PL]; omega)) only [PS, P1, P2, P3, P4, P5, P6, P7, P8, PA, PB, PC, Nat.reduceAdd, Nat.reduceSub, Nat.reduceMul, Nat.reduceLeDiff, Nat.reduceEqDiff, Nat.succ_ne_self, reduceCtorEq, Int.reduceToNat, Int.cast_ofNat_Int, Int.reduceEq, Int.reduceNe, Int.reduceLT, Int.reduceLE]
    exact hK _ (but.le (b := b7) (hle6.trans hle7) (le_none hle6 b7 hb7) fun x hx => Heap.set_ne hx)
  | some a =>
    rw [hp] at hK
    have hpa := partsOf_some hp
    simp only [paV, hp, Option.elim, Pa.enc]
    try simp (disch := first | omega | (simp only [PL]; omega)) only [PS, P1, P2, P3, P4, P5, P6, P7, P8, PA, PB, PC, Nat.reduceAdd, Nat.reduceSub, Nat.reduceMul, Nat.reduceLeDiff, Nat.reduceEqDiff, Nat.succ_ne_self, reduceCtorEq, Int.reduceToNat, Int.cast_ofNat_Int, Int.reduceEq, Int.reduceNe, Int.reduceLT, Int.reduceLE]
    refine i_newO fun b7 h7 hle7 hb7 ho7 => ?_
    try simp (disch := first | omega | (simp only [PL]; omega)) only [PS, P1, P2, P3, P4, P5, P6, P7, P8, PA, PB, PC, Nat.reduceAdd, Nat.reduceSub, Nat.reduceMul, Nat.reduceLeDiff, Nat.reduceEqDiff, Nat.succ_ne_self, reduceCtorEq, Int.reduceToNat, Int.cast_ofNat_Int, Int.reduceEq, Int.reduceNe, Int.reduceLT, Int.reduceLE]
    refine i_st (ho7.le (fr_le _ _)) 0 4 rfl rfl (by omega) (Nat.le_refl 4) fun o7 hob7 _ => ?_
    have hob72 : objAt (h7.set b7 o7) ⟨b7, 0, none⟩ [.int .i64 a.cb, .int .i64 a.cd, .int .i64 a.rb, .int .i64 a.rd] := hob7 h7 rfl
    have hb7h : h b7 = none := le_none hle6 b7 hb7
    have hne17 : b1 ≠ b7 := by rintro rfl; exact objAt.nn hob16 hb7
    have hne47 : b4 ≠ b7 := by rintro rfl; exact objAt.nn hob6 hb7
    have hle8 : Heap.le h (h7.set b7 o7) := but.le (b := b7) (hle6.trans hle7) hb7h fun x hx => Heap.set_ne hx
    have hob18 : objAt (h7.set b7 o7) ⟨b1, 0, none⟩ [.string (str b)] := but.obj (b := b7) (fun x hx => Heap.set_ne hx) hne17 (hob16.le hle7)
    have hob48 : objAt (h7.set b7 o7) ⟨b4, 0, none⟩ [.int .i64 (11 + 3 : Nat)] := but.obj (b := b7) (fun x hx => Heap.set_ne hx) hne47 (hob6.le hle7)
    generalize h7.set b7 o7 = h8 at *
    have haa0 : ∀ h (k : IntKind), o2V h (.aadr 4 1) (.v (.pointer (some ⟨b7, 0, none⟩))) (.v (.int k 0)) = some (.v (.pointer (some ⟨b7, 0, none⟩))) := fun h k => rfl
    have haa2 : ∀ h (k : IntKind), o2V h (.aadr 4 1) (.v (.pointer (some ⟨b7, 0, none⟩))) (.v (.int k 2)) = some (.v (.pointer (some ((⟨b7, 0, none⟩ : Addr).add 2)))) := fun h k => rfl
    have C0 : h8.cell ⟨b7, 0, none⟩ = some (.int .i64 a.cb) := hob72.rules.2.1 (by simp)
    try simp (disch := first | omega | (simp only [PL]; omega)) only [PS, P1, P2, P3, P4, P5, P6, P7, P8, PA, PB, PC, Nat.reduceAdd, Nat.reduceSub, Nat.reduceMul, Nat.reduceLeDiff, Nat.reduceEqDiff, Nat.succ_ne_self, reduceCtorEq, Int.reduceToNat, Int.cast_ofNat_Int, Int.reduceEq, Int.reduceNe, Int.reduceLT, Int.reduceLE, haa0, C0]
    refine i_cal H127 ⟨b1, b4, b, 14, a.cb, rfl, hob18.rules.2.1 (by simp), hob48, hne, hlen, by omega, by omega, fun h9 hbut9 hob9 => ?_⟩
    have hle9 := hbut9.le hle8 hb4h
    have hob19 := hbut9.obj hne hob18
    have hob79 := hbut9.obj (a := ⟨b7, 0, none⟩) (Ne.symm hne47) hob72
    have C2 : h9.cell ((⟨b7, 0, none⟩ : Addr).add 2) = some (.int .i64 a.rb) := hob79.rules.1 2 (by simp)
    have e4 : rdBits b 14 a.cb = num b / 2 ^ (24 + a.rb) % 2 ^ a.cb := by rw [hnum 14 a.cb (by omega)]; congr 3; omega
    rw [e4]
    try simp (disch := first | omega | (simp only [PL]; omega)) only [PS, P1, P2, P3, P4, P5, P6, P7, P8, PA, PB, PC, Nat.reduceAdd, Nat.reduceSub, Nat.reduceMul, Nat.reduceLeDiff, Nat.reduceEqDiff, Nat.succ_ne_self, reduceCtorEq, Int.reduceToNat, Int.cast_ofNat_Int, Int.reduceEq, Int.reduceNe, Int.reduceLT, Int.reduceLE, haa2, C2]
    refine i_cal H127 ⟨b1, b4, b, 14 + a.cb, a.rb, rfl, hob19.rules.2.1 (by simp), hob9, hne, hlen, by omega, by omega, fun h10 hbut10 hob10 => ?_⟩
    have hle10 := hbut10.le hle9 hb4h
    have hob110 := hbut10.obj hne hob19
    have e5 : rdBits b (14 + a.cb) a.rb = num b / 2 ^ 24 % 2 ^ a.rb := by rw [hnum _ _ (by omega)]; congr 3; omega
    rw [e5]
    try simp (disch := first | omega | (simp only [PL]; omega)) only [PS, P1, P2, P3, P4, P5, P6, P7, P8, PA, PB, PC, Nat.reduceAdd, Nat.reduceSub, Nat.reduceMul, Nat.reduceLeDiff, Nat.reduceEqDiff, Nat.succ_ne_self, reduceCtorEq, Int.reduceToNat, Int.cast_ofNat_Int, Int.reduceEq, Int.reduceNe, Int.reduceLT, Int.reduceLE]
    refine i_cal H127 ⟨b1, b4, b, 14 + a.cb + a.rb, 24, rfl, hob110.rules.2.1 (by simp), hob10, hne, hlen, by omega, by omega, fun h11 hbut11 hob11 => ?_⟩
    have hle11 := hbut11.le hle10 hb4h
    have e6 : rdBits b (14 + a.cb + a.rb) 24 = num b % 2 ^ 24 := by rw [hnum _ _ (by omega)]; congr 1; rw [show 64 - (14 + a.cb + a.rb) - 24 = 0 by omega]; simp
    rw [e6]
    try simp (disch := first | omega | (simp only [PL]; omega)) only [PS, P1, P2, P3, P4, P5, P6, P7, P8, PA, PB, PC, Nat.reduceAdd, Nat.reduceSub, Nat.reduceMul, Nat.reduceLeDiff, Nat.reduceEqDiff, Nat.succ_ne_self, reduceCtorEq, Int.reduceToNat, Int.cast_ofNat_Int, Int.reduceEq, Int.reduceNe, Int.reduceLT, Int.reduceLE]
    have hcl : num b / 2 ^ (24 + a.rb) % 2 ^ a.cb < 2 ^ 30 := Nat.lt_of_lt_of_le (Nat.mod_lt _ (Nat.pow_pos (by omega))) (Nat.pow_le_pow_right (by omega) (by omega))
    have hrl : num b / 2 ^ 24 % 2 ^ a.rb < 2 ^ 30 := Nat.lt_of_lt_of_le (Nat.mod_lt _ (Nat.pow_pos (by omega))) (Nat.pow_le_pow_right (by omega) (by omega))
    refine i_call H128 ⟨tagAt (num b) a, rfl, by simp only [tagAt]; omega, by simp only [tagAt]; omega, fun h12 hle12 => ?_⟩
    dsimp only at hK
    by_cases hbad : (tagAt (num b) a).bad
    · rw [if_pos hbad] at hK
      rw [fault_bad hbad]
      simp only [Option.getD, Option.isSome, Tg.zero, aggT] at hK
      try simp (disch := first | omega | (simp only [PL]; omega)) only [PS, P1, P2, P3, P4, P5, P6, P7, P8, PA, PB, PC, Nat.reduceAdd, Nat.reduceSub, Nat.reduceMul, Nat.reduceLeDiff, Nat.reduceEqDiff, Nat.succ_ne_self, reduceCtorEq, Int.reduceToNat, Int.cast_ofNat_Int, Int.reduceEq, Int.reduceNe, Int.reduceLT, Int.reduceLE]
      exact hK h12 (hle11.trans hle12)
    · rw [if_neg hbad] at hK
      rw [fault_ok hbad]
      simp only [Option.getD, Option.isSome, aggT, tagAt] at hK
      try simp (disch := first | omega | (simp only [PL]; omega)) only [PS, P1, P2, P3, P4, P5, P6, P7, P8, PA, PB, PC, Nat.reduceAdd, Nat.reduceSub, Nat.reduceMul, Nat.reduceLeDiff, Nat.reduceEqDiff, Nat.succ_ne_self, reduceCtorEq, Int.reduceToNat, Int.cast_ofNat_Int, Int.reduceEq, Int.reduceNe, Int.reduceLT, Int.reduceLE]
      exact hK h12 (hle11.trans hle12)
end Go.Cw
/- Go's sort.Slice, over sights: what the library's functions do. -/
namespace Go.Cw
open Go Go.Sort Go.Proofs

/-- what is not the slice's stays -/
def kv (v : Value) (h h' : Heap) : Prop := ∀ x o, h x = some o → blkOf v ≠ some x → h' x = some o
theorem kv.refl {v : Value} {h : Heap} : kv v h h := fun _ _ h _ => h
theorem kv.trans {v : Value} {h h' h'' : Heap} (a : kv v h h') (b : kv v h' h'') : kv v h h'' := fun x o h1 h2 => b x o (a x o h1 h2) h2
theorem kv.of_le {v : Value} {h h' : Heap} (a : Heap.le h h') : kv v h h' := fun x o h1 _ => a x o h1
/-- the slice holds these sights; F lies beside it -/
def Rw (F h : Heap) (v : Value) (d : Array Si) : Prop := OwnS Si.enc 4 F h v d.toList
theorem Rw.le {F h h' : Heap} {v : Value} {d : Array Si} (a : Rw F h v d) (hl : Heap.le h h') : Rw F h' v d := OwnS.le a hl

/-- what the sort is given: two functions and a slice -/
structure So (N : Num) (Γ : Ctx) (F : Heap) (v : Value) (fl fs : Nat) (cl cs : Array Value) (lt : Si → Si → Bool) (n : Nat) : Prop where
  less : ∀ (H : Heap) (d : Array Si) (i j : Nat) (K : Value → Heap → Prop), d.size = n → Rw F H v d → i < n → j < n → (∀ H', Heap.le H H' → K (.bool (lt d[i]! d[j]!)) H') → efW N Γ .cal [.func (.func fl) #[] cl, .int .i64 i, .int .i64 j] H K
  swap : ∀ (H : Heap) (d : Array Si) (i j : Nat) (K : Value → Heap → Prop), d.size = n → Rw F H v d → i < n → j < n → (∀ H', Rw F H' v (swp d i j) → kv v H H' → K (.tuple #[]) H') → efW N Γ .cal [.func (.func fs) #[] cs, .int .i64 i, .int .i64 j] H K
  size : n ≤ 100000000

def S98 (N : Num) (Γ : Ctx) : Spec := fun args h K => ∃ F v fl fs cl cs lt d, ∃ a b : Nat, args = [.agg #[.func (.func fl) #[] cl, .func (.func fs) #[] cs], .int .i64 a, .int .i64 b] ∧ So N Γ F v fl fs cl cs lt d.size ∧ Rw F h v d ∧ a ≤ b ∧ b ≤ d.size ∧
  ∀ h', Rw F h' v (insertionSort lt d a b) → kv v h h' → K (.tuple #[]) h'
theorem F98_ok {N : Num} {Γ : Ctx} [GoodC Γ] : Sat (S98 N Γ) (SF N Γ F98) := by
  rintro _ h K ⟨F, v, fl, fs, cl, cs, lt, d, a, b, rfl, hS, hd, hab, hb, hK⟩
  have hsz := hS.size
  refine i_fun rfl ?_
  simp only [F98, env0, List.map, List.length, List.replicate, List.cons_append, List.nil_append, Nat.reduceSub, Nat.reduceAdd]
  try simp (disch := first | omega | (simp only [PL]; omega)) only [PS, P1, P2, P3, P4, P5, P6, P7, P8, PA, PB, PC, Nat.reduceAdd, Nat.reduceSub, Nat.reduceMul, Nat.reduceLeDiff, Nat.reduceEqDiff, Nat.succ_ne_self, reduceCtorEq, Int.reduceToNat, Int.cast_ofNat_Int, Int.reduceEq, Int.reduceNe, Int.reduceLT, Int.reduceLE]
  refine i_loop (fun x : Nat × Array Si => [some (.agg #[.func (.func fl) #[] cl, .func (.func fs) #[] cs]), some (.int .i64 a), some (.int .i64 b), some (.agg #[.func (.func fl) #[] cl, .func (.func fs) #[] cs]), some (.int .i64 (x.1 : Nat)), none, none, none, none, none])
    (fun x H => a < x.1 ∧ x.1 ≤ b + 1 ∧ x.2.size = d.size ∧ Rw F H v x.2 ∧ kv v h H ∧ insOuter lt a b x.1 x.2 = insOuter lt a b (a + 1) d) (fun x => b + 1 - x.1) (a + 1, d) (by dsimp only; try simp only [Pe, and_true, true_and, and_self]) ⟨by dsimp only; omega, by dsimp only; omega, rfl, hd, kv.refl, rfl⟩ ?_
  rintro ⟨i, dk⟩ H ⟨hai, hib, hsk, hR, hkv, hO⟩
  dsimp only at hai hib hsk hR hO ⊢
  have hw : IntKind.i64.wrap ((i : Int) + 1) = ((i + 1 : Nat) : Int) := by rw [w64 (by omega) (by omega)]; omega
  try simp (disch := first | omega | (simp only [PL]; omega)) only [PS, P1, P2, P3, P4, P5, P6, P7, P8, PA, PB, PC, Nat.reduceAdd, Nat.reduceSub, Nat.reduceMul, Nat.reduceLeDiff, Nat.reduceEqDiff, Nat.succ_ne_self, reduceCtorEq, Int.reduceToNat, Int.cast_ofNat_Int, Int.reduceEq, Int.reduceNe, Int.reduceLT, Int.reduceLE]
  refine i_cond (fun c => ?_) (fun c => ?_)
  rotate_left
  · try simp (disch := first | omega | (simp only [PL]; omega)) only [PS, P1, P2, P3, P4, P5, P6, P7, P8, PA, PB, PC, Nat.reduceAdd, Nat.reduceSub, Nat.reduceMul, Nat.reduceLeDiff, Nat.reduceEqDiff, Nat.succ_ne_self, reduceCtorEq, Int.reduceToNat, Int.cast_ofNat_Int, Int.reduceEq, Int.reduceNe, Int.reduceLT, Int.reduceLE]
    refine hK H ?_ hkv
    unfold insertionSort
    rw [← hO, insOuter_stop _ _ _ _ _ (by omega)]
    exact hR
  have hib2 : i < b := by omega
  try simp (disch := first | omega | (simp only [PL]; omega)) only [PS, P1, P2, P3, P4, P5, P6, P7, P8, PA, PB, PC, Nat.reduceAdd, Nat.reduceSub, Nat.reduceMul, Nat.reduceLeDiff, Nat.reduceEqDiff, Nat.succ_ne_self, reduceCtorEq, Int.reduceToNat, Int.cast_ofNat_Int, Int.reduceEq, Int.reduceNe, Int.reduceLT, Int.reduceLE]
  refine i_loop (fun x : Nat × Array Si => [some (.agg #[.func (.func fl) #[] cl, .func (.func fs) #[] cs]), some (.int .i64 a), some (.int .i64 b), some (.agg #[.func (.func fl) #[] cl, .func (.func fs) #[] cs]), some (.int .i64 (i : Nat)), some (.int .i64 (x.1 : Nat)), none, none, none, none])
    (fun x H2 => a ≤ x.1 ∧ x.1 ≤ i ∧ x.2.size = d.size ∧ Rw F H2 v x.2 ∧ kv v h H2 ∧ insInner lt a x.1 x.2 = insInner lt a i dk) (fun x => x.1) (i, dk) (by dsimp only; try simp only [Pe, and_true, true_and, and_self]) ⟨by dsimp only; omega, Nat.le_refl _, hsk, hR, hkv, rfl⟩ ?_
  rintro ⟨j, dj⟩ H2 ⟨haj, hji, hsj, hR2, hkv2, hI⟩
  dsimp only at haj hji hsj hR2 hI ⊢
  have hout : ∀ H3, (j ≤ a ∨ lt dj[j]! dj[j - 1]! = false) → Heap.le H2 H3 → a < i + 1 ∧ i + 1 ≤ b + 1 ∧ dj.size = d.size ∧ Rw F H3 v dj ∧ kv v h H3 ∧ insOuter lt a b (i + 1) dj = insOuter lt a b (a + 1) d := by
    intro H3 hst hle
    refine ⟨by omega, by omega, hsj, hR2.le hle, hkv2.trans (kv.of_le hle), ?_⟩
    rw [← hO, insOuter_go _ _ _ _ _ hib2, ← hI, insInner_stop _ _ _ _ hst]
  by_cases hja : a < j
  rotate_left
  · have hja' : ((a : Int) < (j : Int)) = False := by rw [eq_iff_iff]; simp; omega
    try simp (disch := first | omega | (simp only [PL]; omega)) only [PS, P1, P2, P3, P4, P5, P6, P7, P8, PA, PB, PC, Nat.reduceAdd, Nat.reduceSub, Nat.reduceMul, Nat.reduceLeDiff, Nat.reduceEqDiff, Nat.succ_ne_self, reduceCtorEq, Int.reduceToNat, Int.cast_ofNat_Int, Int.reduceEq, Int.reduceNe, Int.reduceLT, Int.reduceLE, hja', hw]
    exact k_loop (i + 1, dj) (by dsimp only; omega) (by dsimp only; try simp only [Pe, and_true, true_and, and_self]) (hout H2 (.inl (by omega)) (Heap.le.refl _))
  have hja' : ((a : Int) < (j : Int)) = True := by rw [eq_iff_iff]; simp; omega
  have hj1 : IntKind.i64.wrap ((j : Int) - 1) = ((j - 1 : Nat) : Int) := by rw [w64 (by omega) (by omega)]; omega
  try simp (disch := first | omega | (simp only [PL]; omega)) only [PS, P1, P2, P3, P4, P5, P6, P7, P8, PA, PB, PC, Nat.reduceAdd, Nat.reduceSub, Nat.reduceMul, Nat.reduceLeDiff, Nat.reduceEqDiff, Nat.succ_ne_self, reduceCtorEq, Int.reduceToNat, Int.cast_ofNat_Int, Int.reduceEq, Int.reduceNe, Int.reduceLT, Int.reduceLE, hja', hj1]
  refine hS.less H2 dj j (j - 1) _ hsj hR2 (by omega) (by omega) fun H3 hle3 => ?_
  cases hl : lt dj[j]! dj[j - 1]! with
  | false =>
    try simp (disch := first | omega | (simp only [PL]; omega)) only [PS, P1, P2, P3, P4, P5, P6, P7, P8, PA, PB, PC, Nat.reduceAdd, Nat.reduceSub, Nat.reduceMul, Nat.reduceLeDiff, Nat.reduceEqDiff, Nat.succ_ne_self, reduceCtorEq, Int.reduceToNat, Int.cast_ofNat_Int, Int.reduceEq, Int.reduceNe, Int.reduceLT, Int.reduceLE, hw]
    exact k_loop (i + 1, dj) (by dsimp only; omega) (by dsimp only; try simp only [Pe, and_true, true_and, and_self]) (hout H3 (.inr hl) hle3)
  | true =>
    try simp (disch := first | omega | (simp only [PL]; omega)) only [PS, P1, P2, P3, P4, P5, P6, P7, P8, PA, PB, PC, Nat.reduceAdd, Nat.reduceSub, Nat.reduceMul, Nat.reduceLeDiff, Nat.reduceEqDiff, Nat.succ_ne_self, reduceCtorEq, Int.reduceToNat, Int.cast_ofNat_Int, Int.reduceEq, Int.reduceNe, Int.reduceLT, Int.reduceLE, hj1]
    refine hS.swap H3 dj j (j - 1) _ hsj (hR2.le hle3) (by omega) (by omega) fun H4 hR4 hk4 => ?_
    try simp (disch := first | omega | (simp only [PL]; omega)) only [PS, P1, P2, P3, P4, P5, P6, P7, P8, PA, PB, PC, Nat.reduceAdd, Nat.reduceSub, Nat.reduceMul, Nat.reduceLeDiff, Nat.reduceEqDiff, Nat.succ_ne_self, reduceCtorEq, Int.reduceToNat, Int.cast_ofNat_Int, Int.reduceEq, Int.reduceNe, Int.reduceLT, Int.reduceLE, hj1]
    exact k_loop (j - 1, swp dj j (j - 1)) (by dsimp only; omega) (by dsimp only; try simp only [Pe, and_true, true_and, and_self]) ⟨by dsimp only; omega, by dsimp only; omega, by dsimp only; rw [size_swp]; exact hsj, hR4, (hkv2.trans (kv.of_le hle3)).trans hk4, by rw [← hI, insInner_go lt a j dj hja hl]⟩
end Go.Cw
namespace Go.Cw
open Go Go.Sort Go.Proofs

theorem siftDown_end {lt : Si → Si → Bool} {hi first root : Nat} {d : Array Si} (h : hi ≤ 2 * root + 1) : siftDown lt hi first root d = d := by rw [siftDown, dif_pos (by omega)]
/-- the child that is taken -/
def kid (lt : Si → Si → Bool) (hi first root : Nat) (d : Array Si) : Nat := if 2 * root + 1 + 1 < hi && lt d[first + (2 * root + 1)]! d[first + (2 * root + 1) + 1]! then 2 * root + 2 else 2 * root + 1
theorem siftDown_kid {lt : Si → Si → Bool} {hi first root : Nat} {d : Array Si} (h : ¬ hi ≤ 2 * root + 1) : kid lt hi first root d < hi ∧ root < kid lt hi first root d ∧
    siftDown lt hi first root d = if lt d[first + root]! d[first + kid lt hi first root d]! then siftDown lt hi first (kid lt hi first root d) (swp d (first + root) (first + kid lt hi first root d)) else d := by
  unfold kid
  rw [siftDown, dif_neg (by omega)]
  split
  · rename_i hc
    simp only [Bool.and_eq_true, decide_eq_true_eq] at hc
    refine ⟨by omega, by omega, ?_⟩
    cases hl : lt d[first + root]! d[first + (2 * root + 2)]! with
    | true => simp [show 2 * root + 2 < hi by omega]
    | false => simp
  · refine ⟨by omega, by omega, ?_⟩
    cases hl : lt d[first + root]! d[first + (2 * root + 1)]! with
    | true => simp
    | false => simp

def S112 (N : Num) (Γ : Ctx) : Spec := fun args h K => ∃ F v fl fs cl cs lt d, ∃ lo hi first : Nat, args = [.agg #[.func (.func fl) #[] cl, .func (.func fs) #[] cs], .int .i64 lo, .int .i64 hi, .int .i64 first] ∧ So N Γ F v fl fs cl cs lt d.size ∧ Rw F h v d ∧ lo ≤ d.size ∧ first + hi ≤ d.size ∧
  ∀ h', Rw F h' v (siftDown lt hi first lo d) → kv v h h' → K (.tuple #[]) h'
theorem F112_ok {N : Num} {Γ : Ctx} [GoodC Γ] : Sat (S112 N Γ) (SF N Γ F112) := by
  rintro _ h K ⟨F, v, fl, fs, cl, cs, lt, d, lo, hi, first, rfl, hS, hd, hlo, hb, hK⟩
  have hsz := hS.size
  refine i_fun rfl ?_
  simp only [F112, env0, List.map, List.length, List.replicate, List.cons_append, List.nil_append, Nat.reduceSub, Nat.reduceAdd]
  try simp (disch := first | omega | (simp only [PL]; omega)) only [PS, P1, P2, P3, P4, P5, P6, P7, P8, PA, PB, PC, Nat.reduceAdd, Nat.reduceSub, Nat.reduceMul, Nat.reduceLeDiff, Nat.reduceEqDiff, Nat.succ_ne_self, reduceCtorEq, Int.reduceToNat, Int.cast_ofNat_Int, Int.reduceEq, Int.reduceNe, Int.reduceLT, Int.reduceLE]
  refine i_loop (fun x : Nat × Array Si => [some (.agg #[.func (.func fl) #[] cl, .func (.func fs) #[] cs]), some (.int .i64 lo), some (.int .i64 hi), some (.int .i64 first), some (.agg #[.func (.func fl) #[] cl, .func (.func fs) #[] cs]), some (.int .i64 (x.1 : Nat)), none, none, none, none, none, none, none])
    (fun x H => x.1 ≤ d.size ∧ x.2.size = d.size ∧ Rw F H v x.2 ∧ kv v h H ∧ siftDown lt hi first x.1 x.2 = siftDown lt hi first lo d) (fun x => d.size - x.1) (lo, d) (by dsimp only; try simp only [Pe, and_true, true_and, and_self]) ⟨hlo, rfl, hd, kv.refl, rfl⟩ ?_
  rintro ⟨r, dk⟩ H ⟨hr, hsk, hR, hkv, hP⟩
  dsimp only at hr hsk hR hP ⊢
  have hw1 : IntKind.i64.wrap (IntKind.i64.wrap (2 * (r : Int)) + 1) = ((2 * r + 1 : Nat) : Int) := by rw [w64 (n := 2 * (r : Int)) (by omega) (by omega), w64 (by omega) (by omega)]; omega
  try simp (disch := first | omega | (simp only [PL]; omega)) only [PS, P1, P2, P3, P4, P5, P6, P7, P8, PA, PB, PC, Nat.reduceAdd, Nat.reduceSub, Nat.reduceMul, Nat.reduceLeDiff, Nat.reduceEqDiff, Nat.succ_ne_self, reduceCtorEq, Int.reduceToNat, Int.cast_ofNat_Int, Int.reduceEq, Int.reduceNe, Int.reduceLT, Int.reduceLE, hw1]
  refine i_cond (fun c => ?_) (fun c => ?_)
  · try simp (disch := first | omega | (simp only [PL]; omega)) only [PS, P1, P2, P3, P4, P5, P6, P7, P8, PA, PB, PC, Nat.reduceAdd, Nat.reduceSub, Nat.reduceMul, Nat.reduceLeDiff, Nat.reduceEqDiff, Nat.succ_ne_self, reduceCtorEq, Int.reduceToNat, Int.cast_ofNat_Int, Int.reduceEq, Int.reduceNe, Int.reduceLT, Int.reduceLE]
    refine hK H ?_ hkv
    rw [← hP, siftDown_end (by omega)]
    exact hR
  have hc1 : ¬ hi ≤ 2 * r + 1 := by omega
  obtain ⟨k1, k2, k3⟩ := siftDown_kid (lt := lt) (first := first) (d := dk) hc1
  have hw2 : IntKind.i64.wrap (((2 * r + 1 : Nat) : Int) + 1) = ((2 * r + 1 + 1 : Nat) : Int) := by rw [w64 (by omega) (by omega)]; omega
  have hw3 : IntKind.i64.wrap ((first : Int) + ((2 * r + 1 : Nat) : Int)) = ((first + (2 * r + 1) : Nat) : Int) := by rw [w64 (by omega) (by omega)]; omega
  have hw4 : IntKind.i64.wrap (((first + (2 * r + 1) : Nat) : Int) + 1) = ((first + (2 * r + 1) + 1 : Nat) : Int) := by rw [w64 (by omega) (by omega)]; omega
  try simp (disch := first | omega | (simp only [PL]; omega)) only [PS, P1, P2, P3, P4, P5, P6, P7, P8, PA, PB, PC, Nat.reduceAdd, Nat.reduceSub, Nat.reduceMul, Nat.reduceLeDiff, Nat.reduceEqDiff, Nat.succ_ne_self, reduceCtorEq, Int.reduceToNat, Int.cast_ofNat_Int, Int.reduceEq, Int.reduceNe, Int.reduceLT, Int.reduceLE, hw2]
  have hgo : ∀ (H2 : Heap) (env : Env), (kid lt hi first r dk = 2 * r + 2 ∨ kid lt hi first r dk = 2 * r + 1) → Heap.le H H2 → Rw F H2 v dk ∧ kv v h H2 := fun H2 env _ hl => ⟨hR.le hl, hkv.trans (kv.of_le hl)⟩
  by_cases hc2 : 2 * r + 1 + 1 < hi
  rotate_left
  · have hc2' : (((2 * r + 1 + 1 : Nat) : Int) < (hi : Int)) = False := by rw [eq_iff_iff]; simp; omega
    have hkd : kid lt hi first r dk = 2 * r + 1 := by unfold kid; rw [if_neg (by simp; omega)]
    rw [hkd] at k1 k2 k3
    have hw5 : IntKind.i64.wrap ((first : Int) + (r : Int)) = ((first + r : Nat) : Int) := by rw [w64 (by omega) (by omega)]; omega
    try simp (disch := first | omega | (simp only [PL]; omega)) only [PS, P1, P2, P3, P4, P5, P6, P7, P8, PA, PB, PC, Nat.reduceAdd, Nat.reduceSub, Nat.reduceMul, Nat.reduceLeDiff, Nat.reduceEqDiff, Nat.succ_ne_self, reduceCtorEq, Int.reduceToNat, Int.cast_ofNat_Int, Int.reduceEq, Int.reduceNe, Int.reduceLT, Int.reduceLE, hc2', hw3, hw5]
    refine hS.less H dk (first + r) (first + (2 * r + 1)) _ hsk hR (by omega) (by omega) fun H3 hle3 => ?_
    cases hl : lt dk[first + r]! dk[first + (2 * r + 1)]! with
    | false =>
      rw [hl] at k3
      try simp (disch := first | omega | (simp only [PL]; omega)) only [PS, P1, P2, P3, P4, P5, P6, P7, P8, PA, PB, PC, Nat.reduceAdd, Nat.reduceSub, Nat.reduceMul, Nat.reduceLeDiff, Nat.reduceEqDiff, Nat.succ_ne_self, reduceCtorEq, Int.reduceToNat, Int.cast_ofNat_Int, Int.reduceEq, Int.reduceNe, Int.reduceLT, Int.reduceLE]
      refine hK H3 ?_ (hkv.trans (kv.of_le hle3))
      rw [← hP, k3]; exact hR.le hle3
    | true =>
      rw [hl, if_pos rfl] at k3
      try simp (disch := first | omega | (simp only [PL]; omega)) only [PS, P1, P2, P3, P4, P5, P6, P7, P8, PA, PB, PC, Nat.reduceAdd, Nat.reduceSub, Nat.reduceMul, Nat.reduceLeDiff, Nat.reduceEqDiff, Nat.succ_ne_self, reduceCtorEq, Int.reduceToNat, Int.cast_ofNat_Int, Int.reduceEq, Int.reduceNe, Int.reduceLT, Int.reduceLE, hw3, hw5]
      refine hS.swap H3 dk (first + r) (first + (2 * r + 1)) _ hsk (hR.le hle3) (by omega) (by omega) fun H4 hR4 hk4 => ?_
      try simp (disch := first | omega | (simp only [PL]; omega)) only [PS, P1, P2, P3, P4, P5, P6, P7, P8, PA, PB, PC, Nat.reduceAdd, Nat.reduceSub, Nat.reduceMul, Nat.reduceLeDiff, Nat.reduceEqDiff, Nat.succ_ne_self, reduceCtorEq, Int.reduceToNat, Int.cast_ofNat_Int, Int.reduceEq, Int.reduceNe, Int.reduceLT, Int.reduceLE]
      exact k_loop (2 * r + 1, swp dk (first + r) (first + (2 * r + 1))) (by dsimp only; omega) (by dsimp only; try simp only [Pe, and_true, true_and, and_self]) ⟨by dsimp only; omega, by dsimp only; rw [size_swp]; exact hsk, hR4, (hkv.trans (kv.of_le hle3)).trans hk4, by rw [← hP, k3]⟩
  have hc2' : (((2 * r + 1 + 1 : Nat) : Int) < (hi : Int)) = True := by rw [eq_iff_iff]; simp; omega
  try simp (disch := first | omega | (simp only [PL]; omega)) only [PS, P1, P2, P3, P4, P5, P6, P7, P8, PA, PB, PC, Nat.reduceAdd, Nat.reduceSub, Nat.reduceMul, Nat.reduceLeDiff, Nat.reduceEqDiff, Nat.succ_ne_self, reduceCtorEq, Int.reduceToNat, Int.cast_ofNat_Int, Int.reduceEq, Int.reduceNe, Int.reduceLT, Int.reduceLE, hc2', hw3, hw4]
  refine hS.less H dk (first + (2 * r + 1)) (first + (2 * r + 1) + 1) _ hsk hR (by omega) (by omega) fun H2 hle2 => ?_
  have hR2 := hR.le hle2
  have hkv2 := hkv.trans (kv.of_le hle2)
  have hw5 : IntKind.i64.wrap ((first : Int) + (r : Int)) = ((first + r : Nat) : Int) := by rw [w64 (by omega) (by omega)]; omega
  have hw6 : IntKind.i64.wrap ((first : Int) + ((2 * r + 1 + 1 : Nat) : Int)) = ((first + (2 * r + 2) : Nat) : Int) := by rw [w64 (by omega) (by omega)]; omega
  cases hl0 : lt dk[first + (2 * r + 1)]! dk[first + (2 * r + 1) + 1]! with
  | false =>
    have hkd : kid lt hi first r dk = 2 * r + 1 := by unfold kid; rw [hl0]; simp
    rw [hkd] at k1 k2 k3
    try simp (disch := first | omega | (simp only [PL]; omega)) only [PS, P1, P2, P3, P4, P5, P6, P7, P8, PA, PB, PC, Nat.reduceAdd, Nat.reduceSub, Nat.reduceMul, Nat.reduceLeDiff, Nat.reduceEqDiff, Nat.succ_ne_self, reduceCtorEq, Int.reduceToNat, Int.cast_ofNat_Int, Int.reduceEq, Int.reduceNe, Int.reduceLT, Int.reduceLE, hw3, hw5]
    refine hS.less H2 dk (first + r) (first + (2 * r + 1)) _ hsk hR2 (by omega) (by omega) fun H3 hle3 => ?_
    cases hl : lt dk[first + r]! dk[first + (2 * r + 1)]! with
    | false =>
      rw [hl] at k3
      try simp (disch := first | omega | (simp only [PL]; omega)) only [PS, P1, P2, P3, P4, P5, P6, P7, P8, PA, PB, PC, Nat.reduceAdd, Nat.reduceSub, Nat.reduceMul, Nat.reduceLeDiff, Nat.reduceEqDiff, Nat.succ_ne_self, reduceCtorEq, Int.reduceToNat, Int.cast_ofNat_Int, Int.reduceEq, Int.reduceNe, Int.reduceLT, Int.reduceLE]
      refine hK H3 ?_ (hkv2.trans (kv.of_le hle3))
      rw [← hP, k3]; exact hR2.le hle3
    | true =>
      rw [hl, if_pos rfl] at k3
      try simp (disch := first | omega | (simp only [PL]; omega)) only [PS, P1, P2, P3, P4, P5, P6, P7, P8, PA, PB, PC, Nat.reduceAdd, Nat.reduceSub, Nat.reduceMul, Nat.reduceLeDiff, Nat.reduceEqDiff, Nat.succ_ne_self, reduceCtorEq, Int.reduceToNat, Int.cast_ofNat_Int, Int.reduceEq, Int.reduceNe, Int.reduceLT, Int.reduceLE, hw3, hw5]
      refine hS.swap H3 dk (first + r) (first + (2 * r + 1)) _ hsk (hR2.le hle3) (by omega) (by omega) fun H4 hR4 hk4 => ?_
      try simp (disch := first | omega | (simp only [PL]; omega)) only [PS, P1, P2, P3, P4, P5, P6, P7, P8, PA, PB, PC, Nat.reduceAdd, Nat.reduceSub, Nat.reduceMul, Nat.reduceLeDiff, Nat.reduceEqDiff, Nat.succ_ne_self, reduceCtorEq, Int.reduceToNat, Int.cast_ofNat_Int, Int.reduceEq, Int.reduceNe, Int.reduceLT, Int.reduceLE]
      exact k_loop (2 * r + 1, swp dk (first + r) (first + (2 * r + 1))) (by dsimp only; omega) (by dsimp only; try simp only [Pe, and_true, true_and, and_self]) ⟨by dsimp only; omega, by dsimp only; rw [size_swp]; exact hsk, hR4, (hkv2.trans (kv.of_le hle3)).trans hk4, by rw [← hP, k3]⟩
  | true =>
    have hkd : kid lt hi first r dk = 2 * r + 2 := by unfold kid; rw [hl0, if_pos (by simp; omega)]
    rw [hkd] at k1 k2 k3
    try simp (disch := first | omega | (simp only [PL]; omega)) only [PS, P1, P2, P3, P4, P5, P6, P7, P8, PA, PB, PC, Nat.reduceAdd, Nat.reduceSub, Nat.reduceMul, Nat.reduceLeDiff, Nat.reduceEqDiff, Nat.succ_ne_self, reduceCtorEq, Int.reduceToNat, Int.cast_ofNat_Int, Int.reduceEq, Int.reduceNe, Int.reduceLT, Int.reduceLE, hw2, hw5, hw6]
    refine hS.less H2 dk (first + r) (first + (2 * r + 2)) _ hsk hR2 (by omega) (by omega) fun H3 hle3 => ?_
    cases hl : lt dk[first + r]! dk[first + (2 * r + 2)]! with
    | false =>
      rw [hl] at k3
      try simp (disch := first | omega | (simp only [PL]; omega)) only [PS, P1, P2, P3, P4, P5, P6, P7, P8, PA, PB, PC, Nat.reduceAdd, Nat.reduceSub, Nat.reduceMul, Nat.reduceLeDiff, Nat.reduceEqDiff, Nat.succ_ne_self, reduceCtorEq, Int.reduceToNat, Int.cast_ofNat_Int, Int.reduceEq, Int.reduceNe, Int.reduceLT, Int.reduceLE]
      refine hK H3 ?_ (hkv2.trans (kv.of_le hle3))
      rw [← hP, k3]; exact hR2.le hle3
    | true =>
      rw [hl, if_pos rfl] at k3
      try simp (disch := first | omega | (simp only [PL]; omega)) only [PS, P1, P2, P3, P4, P5, P6, P7, P8, PA, PB, PC, Nat.reduceAdd, Nat.reduceSub, Nat.reduceMul, Nat.reduceLeDiff, Nat.reduceEqDiff, Nat.succ_ne_self, reduceCtorEq, Int.reduceToNat, Int.cast_ofNat_Int, Int.reduceEq, Int.reduceNe, Int.reduceLT, Int.reduceLE, hw6, hw5]
      refine hS.swap H3 dk (first + r) (first + (2 * r + 2)) _ hsk (hR2.le hle3) (by omega) (by omega) fun H4 hR4 hk4 => ?_
      try simp (disch := first | omega | (simp only [PL]; omega)) only [PS, P1, P2, P3, P4, P5, P6, P7, P8, PA, PB, PC, Nat.reduceAdd, Nat.reduceSub, Nat.reduceMul, Nat.reduceLeDiff, Nat.reduceEqDiff, Nat.succ_ne_self, reduceCtorEq, Int.reduceToNat, Int.cast_ofNat_Int, Int.reduceEq, Int.reduceNe, Int.reduceLT, Int.reduceLE]
      exact k_loop (2 * r + 2, swp dk (first + r) (first + (2 * r + 2))) (by dsimp only; omega) (by dsimp only; try simp only [Pe, and_true, true_and, and_self]) ⟨by dsimp only; omega, by dsimp only; rw [size_swp]; exact hsk, hR4, (hkv2.trans (kv.of_le hle3)).trans hk4, by rw [← hP, k3]⟩
end Go.Cw
namespace Go.Cw
open Go Go.Sort Go.Proofs

theorem size_siftDown (lt : Si → Si → Bool) (hi first : Nat) : ∀ (n root : Nat) (d : Array Si), hi - root ≤ n → (siftDown lt hi first root d).size = d.size := by
  intro n
  induction n with
  | zero => intro root d h; rw [siftDown_end (by omega)]
  | succ n ih =>
    intro root d h
    by_cases hc : hi ≤ 2 * root + 1
    · rw [siftDown_end hc]
    · obtain ⟨k1, k2, k3⟩ := siftDown_kid (lt := lt) (first := first) (d := d) hc
      rw [k3]
      split
      · rw [ih _ _ (by omega), size_swp]
      · rfl

def S99 (N : Num) (Γ : Ctx) : Spec := fun args h K => ∃ F v fl fs cl cs lt d, ∃ a b : Nat, args = [.agg #[.func (.func fl) #[] cl, .func (.func fs) #[] cs], .int .i64 a, .int .i64 b] ∧ So N Γ F v fl fs cl cs lt d.size ∧ Rw F h v d ∧ a ≤ b ∧ b ≤ d.size ∧
  ∀ h', Rw F h' v (heapSort lt d a b) → kv v h h' → K (.tuple #[]) h'
theorem F99_ok {N : Num} {Γ : Ctx} [GoodC Γ] (H112 : Sat (S112 N Γ) (Γ 112)) : Sat (S99 N Γ) (SF N Γ F99) := by
  rintro _ h K ⟨F, v, fl, fs, cl, cs, lt, d, a, b, rfl, hS, hd, hab, hb, hK⟩
  have hsz := hS.size
  obtain ⟨n, hn⟩ : ∃ n, n = b - a := ⟨_, rfl⟩
  unfold heapSort at hK
  rw [← hn] at hK
  refine i_fun rfl ?_
  simp only [F99, env0, List.map, List.length, List.replicate, List.cons_append, List.nil_append, Nat.reduceSub, Nat.reduceAdd]
  have hw1 : IntKind.i64.wrap ((b : Int) - a) = (n : Int) := by rw [w64 (by omega) (by omega)]; omega
  have hw2 : IntKind.i64.wrap (Int.tdiv (IntKind.i64.wrap ((n : Int) - 1)) 2) = (((n - 1) / 2 : Nat) : Int) := by
    rw [w64 (n := (n : Int) - 1) (by omega) (by omega)]
    cases n with
    | zero => decide
    | succ m =>
      have : (((m + 1 : Nat) : Int) - 1) = (m : Int) := by omega
      rw [this, show Int.tdiv (m : Int) 2 = ((m / 2 : Nat) : Int) from rfl, w64 (by omega) (by omega)]
      simp
  have hw2' : Int.tdiv (IntKind.i64.wrap ((n : Int) - 1)) 2 = (((n - 1) / 2 : Nat) : Int) := by
    rw [w64 (n := (n : Int) - 1) (by omega) (by omega)]
    cases n with
    | zero => decide
    | succ m =>
      have : (((m + 1 : Nat) : Int) - 1) = (m : Int) := by omega
      rw [this, show Int.tdiv (m : Int) 2 = ((m / 2 : Nat) : Int) from rfl]
      simp
  have hw2'' : Int.tdiv ((n : Int) - 1) 2 = (((n - 1) / 2 : Nat) : Int) := by rw [w64 (n := (n : Int) - 1) (by omega) (by omega)] at hw2'; exact hw2'
  have hw3 : IntKind.i64.wrap ((n : Int) - 1) = (n : Int) - 1 := by rw [w64 (by omega) (by omega)]
  try simp (disch := first | omega | (simp only [PL]; omega)) only [PS, P1, P2, P3, P4, P5, P6, P7, P8, PA, PB, PC, Nat.reduceAdd, Nat.reduceSub, Nat.reduceMul, Nat.reduceLeDiff, Nat.reduceEqDiff, Nat.succ_ne_self, reduceCtorEq, Int.reduceToNat, Int.cast_ofNat_Int, Int.reduceEq, Int.reduceNe, Int.reduceLT, Int.reduceLE, hw1, hw3, hw2'']
  refine i_meet_blk (fun env H => ∃ dk, dk.size = d.size ∧ Rw F H v dk ∧ kv v h H ∧ dk = heapBuild lt n a ((n - 1) / 2 + 1) d ∧ env = [some (.agg #[.func (.func fl) #[] cl, .func (.func fs) #[] cs]), some (.int .i64 a), some (.int .i64 b), some (.agg #[.func (.func fl) #[] cl, .func (.func fs) #[] cs]), some (.int .i64 a), some (.int .i64 0), some (.int .i64 n), none, none, none, none]) ?_ ?_
  rotate_left
  · refine i_loop (fun x : Nat × Array Si => [some (.agg #[.func (.func fl) #[] cl, .func (.func fs) #[] cs]), some (.int .i64 a), some (.int .i64 b), some (.agg #[.func (.func fl) #[] cl, .func (.func fs) #[] cs]), some (.int .i64 a), some (.int .i64 0), some (.int .i64 n), some (.int .i64 ((x.1 : Int) - 1)), none, none, none])
      (fun x H => x.1 ≤ (n - 1) / 2 + 1 ∧ x.2.size = d.size ∧ Rw F H v x.2 ∧ kv v h H ∧ heapBuild lt n a x.1 x.2 = heapBuild lt n a ((n - 1) / 2 + 1) d) (fun x => x.1) ((n - 1) / 2 + 1, d) (by dsimp only; rw [show ((((n - 1) / 2 + 1 : Nat) : Int) - 1) = (((n - 1) / 2 : Nat) : Int) by omega]; try simp only [Pe, and_true, true_and, and_self]) ⟨Nat.le_refl _, rfl, hd, kv.refl, rfl⟩ ?_
    rintro ⟨k, dk⟩ H ⟨hk, hsk, hR, hkv, hP⟩
    dsimp only at hk hsk hR hP ⊢
    try simp (disch := first | omega | (simp only [PL]; omega)) only [PS, P1, P2, P3, P4, P5, P6, P7, P8, PA, PB, PC, Nat.reduceAdd, Nat.reduceSub, Nat.reduceMul, Nat.reduceLeDiff, Nat.reduceEqDiff, Nat.succ_ne_self, reduceCtorEq, Int.reduceToNat, Int.cast_ofNat_Int, Int.reduceEq, Int.reduceNe, Int.reduceLT, Int.reduceLE]
    refine i_cond (fun c => ?_) (fun c => ?_)
    rotate_left
    · have : k = 0 := by omega
      subst this
      try simp (disch := first | omega | (simp only [PL]; omega)) only [PS, P1, P2, P3, P4, P5, P6, P7, P8, PA, PB, PC, Nat.reduceAdd, Nat.reduceSub, Nat.reduceMul, Nat.reduceLeDiff, Nat.reduceEqDiff, Nat.succ_ne_self, reduceCtorEq, Int.reduceToNat, Int.cast_ofNat_Int, Int.reduceEq, Int.reduceNe, Int.reduceLT, Int.reduceLE]
      exact k_meet _ (by try simp only [Pe, and_true, true_and, and_self]) ⟨dk, hsk, hR, hkv, by rw [← hP]; rfl, rfl⟩
    obtain ⟨m, rfl⟩ : ∃ m, k = m + 1 := ⟨k - 1, by omega⟩
    have hm1 : (((m + 1 : Nat) : Int) - 1) = (m : Int) := by omega
    have hw4 : IntKind.i64.wrap ((m : Int) - 1) = (m : Int) - 1 := by rw [w64 (by omega) (by omega)]
    rw [hm1]
    try simp (disch := first | omega | (simp only [PL]; omega)) only [PS, P1, P2, P3, P4, P5, P6, P7, P8, PA, PB, PC, Nat.reduceAdd, Nat.reduceSub, Nat.reduceMul, Nat.reduceLeDiff, Nat.reduceEqDiff, Nat.succ_ne_self, reduceCtorEq, Int.reduceToNat, Int.cast_ofNat_Int, Int.reduceEq, Int.reduceNe, Int.reduceLT, Int.reduceLE]
    refine i_call H112 ⟨F, v, fl, fs, cl, cs, lt, dk, m, n, a, rfl, by rw [hsk]; exact hS, hR, by omega, by omega, fun H2 hR2 hk2 => ?_⟩
    try simp (disch := first | omega | (simp only [PL]; omega)) only [PS, P1, P2, P3, P4, P5, P6, P7, P8, PA, PB, PC, Nat.reduceAdd, Nat.reduceSub, Nat.reduceMul, Nat.reduceLeDiff, Nat.reduceEqDiff, Nat.succ_ne_self, reduceCtorEq, Int.reduceToNat, Int.cast_ofNat_Int, Int.reduceEq, Int.reduceNe, Int.reduceLT, Int.reduceLE, hw4]
    exact k_loop (m, siftDown lt n a m dk) (by dsimp only; omega) (by dsimp only; try simp only [Pe, and_true, true_and, and_self]) ⟨by dsimp only; omega, by dsimp only; rw [size_siftDown lt n a _ _ _ (Nat.le_refl _)]; exact hsk, hR2, hkv.trans hk2, by rw [← hP]; rfl⟩
  rintro env H ⟨dk, hsk, hR, hkv, hdk, rfl⟩
  rw [← hdk] at hK
  clear hdk
  try simp (disch := first | omega | (simp only [PL]; omega)) only [PS, P1, P2, P3, P4, P5, P6, P7, P8, PA, PB, PC, Nat.reduceAdd, Nat.reduceSub, Nat.reduceMul, Nat.reduceLeDiff, Nat.reduceEqDiff, Nat.succ_ne_self, reduceCtorEq, Int.reduceToNat, Int.cast_ofNat_Int, Int.reduceEq, Int.reduceNe, Int.reduceLT, Int.reduceLE, hw3]
  refine i_loop (fun x : Nat × Array Si => [some (.agg #[.func (.func fl) #[] cl, .func (.func fs) #[] cs]), some (.int .i64 a), some (.int .i64 b), some (.agg #[.func (.func fl) #[] cl, .func (.func fs) #[] cs]), some (.int .i64 a), some (.int .i64 0), some (.int .i64 n), none, some (.int .i64 ((x.1 : Int) - 1)), none, none])
      (fun x H => x.1 ≤ n ∧ x.2.size = d.size ∧ Rw F H v x.2 ∧ kv v h H ∧ heapPop lt a x.1 x.2 = heapPop lt a n dk) (fun x => x.1) (n, dk) (by dsimp only; try simp only [Pe, and_true, true_and, and_self]) ⟨Nat.le_refl _, hsk, hR, hkv, rfl⟩ ?_
  clear hR hkv
  rintro ⟨k, dj⟩ H ⟨hk, hsj, hR, hkv, hP⟩
  dsimp only at hk hsj hR hP ⊢
  try simp (disch := first | omega | (simp only [PL]; omega)) only [PS, P1, P2, P3, P4, P5, P6, P7, P8, PA, PB, PC, Nat.reduceAdd, Nat.reduceSub, Nat.reduceMul, Nat.reduceLeDiff, Nat.reduceEqDiff, Nat.succ_ne_self, reduceCtorEq, Int.reduceToNat, Int.cast_ofNat_Int, Int.reduceEq, Int.reduceNe, Int.reduceLT, Int.reduceLE]
  refine i_cond (fun c => ?_) (fun c => ?_)
  rotate_left
  · have : k = 0 := by omega
    subst this
    try simp (disch := first | omega | (simp only [PL]; omega)) only [PS, P1, P2, P3, P4, P5, P6, P7, P8, PA, PB, PC, Nat.reduceAdd, Nat.reduceSub, Nat.reduceMul, Nat.reduceLeDiff, Nat.reduceEqDiff, Nat.succ_ne_self, reduceCtorEq, Int.reduceToNat, Int.cast_ofNat_Int, Int.reduceEq, Int.reduceNe, Int.reduceLT, Int.reduceLE]
    refine hK H ?_ hkv
    rw [← hP]; exact hR
  obtain ⟨m, rfl⟩ : ∃ m, k = m + 1 := ⟨k - 1, by omega⟩
  have hm1 : (((m + 1 : Nat) : Int) - 1) = (m : Int) := by omega
  have hw4 : IntKind.i64.wrap ((m : Int) - 1) = (m : Int) - 1 := by rw [w64 (by omega) (by omega)]
  have hw5 : IntKind.i64.wrap ((a : Int) + (m : Int)) = ((a + m : Nat) : Int) := by rw [w64 (by omega) (by omega)]; omega
  rw [hm1]
  try simp (disch := first | omega | (simp only [PL]; omega)) only [PS, P1, P2, P3, P4, P5, P6, P7, P8, PA, PB, PC, Nat.reduceAdd, Nat.reduceSub, Nat.reduceMul, Nat.reduceLeDiff, Nat.reduceEqDiff, Nat.succ_ne_self, reduceCtorEq, Int.reduceToNat, Int.cast_ofNat_Int, Int.reduceEq, Int.reduceNe, Int.reduceLT, Int.reduceLE, hw5]
  refine hS.swap H dj a (a + m) _ hsj hR (by omega) (by omega) fun H2 hR2 hk2 => ?_
  have hs2 : (swp dj a (a + m)).size = d.size := by rw [size_swp]; exact hsj
  try simp (disch := first | omega | (simp only [PL]; omega)) only [PS, P1, P2, P3, P4, P5, P6, P7, P8, PA, PB, PC, Nat.reduceAdd, Nat.reduceSub, Nat.reduceMul, Nat.reduceLeDiff, Nat.reduceEqDiff, Nat.succ_ne_self, reduceCtorEq, Int.reduceToNat, Int.cast_ofNat_Int, Int.reduceEq, Int.reduceNe, Int.reduceLT, Int.reduceLE]
  refine i_call H112 ⟨F, v, fl, fs, cl, cs, lt, swp dj a (a + m), 0, m, a, rfl, by rw [hs2]; exact hS, hR2, by omega, by omega, fun H3 hR3 hk3 => ?_⟩
  try simp (disch := first | omega | (simp only [PL]; omega)) only [PS, P1, P2, P3, P4, P5, P6, P7, P8, PA, PB, PC, Nat.reduceAdd, Nat.reduceSub, Nat.reduceMul, Nat.reduceLeDiff, Nat.reduceEqDiff, Nat.succ_ne_self, reduceCtorEq, Int.reduceToNat, Int.cast_ofNat_Int, Int.reduceEq, Int.reduceNe, Int.reduceLT, Int.reduceLE, hw4]
  exact k_loop (m, siftDown lt m a 0 (swp dj a (a + m))) (by dsimp only; omega) (by dsimp only; try simp only [Pe, and_true, true_and, and_self]) ⟨by dsimp only; omega, by dsimp only; rw [size_siftDown lt m a _ _ _ (Nat.le_refl _)]; exact hs2, hR3, (hkv.trans hk2).trans hk3, by rw [← hP]; rfl⟩

def S102 (N : Num) (Γ : Ctx) : Spec := fun args h K => ∃ F v fl fs cl cs lt d, ∃ a b : Nat, args = [.agg #[.func (.func fl) #[] cl, .func (.func fs) #[] cs], .int .i64 a, .int .i64 b] ∧ So N Γ F v fl fs cl cs lt d.size ∧ Rw F h v d ∧ a < b ∧ b ≤ d.size ∧
  ∀ h', Rw F h' v (reverseRange d a b) → kv v h h' → K (.tuple #[]) h'
theorem F102_ok {N : Num} {Γ : Ctx} [GoodC Γ] : Sat (S102 N Γ) (SF N Γ F102) := by
  rintro _ h K ⟨F, v, fl, fs, cl, cs, lt, d, a, b, rfl, hS, hd, hab, hb, hK⟩
  have hsz := hS.size
  unfold reverseRange at hK
  refine i_fun rfl ?_
  simp only [F102, env0, List.map, List.length, List.replicate, List.cons_append, List.nil_append, Nat.reduceSub, Nat.reduceAdd]
  have hw1 : IntKind.i64.wrap ((b : Int) - 1) = ((b - 1 : Nat) : Int) := by rw [w64 (by omega) (by omega)]; omega
  try simp (disch := first | omega | (simp only [PL]; omega)) only [PS, P1, P2, P3, P4, P5, P6, P7, P8, PA, PB, PC, Nat.reduceAdd, Nat.reduceSub, Nat.reduceMul, Nat.reduceLeDiff, Nat.reduceEqDiff, Nat.succ_ne_self, reduceCtorEq, Int.reduceToNat, Int.cast_ofNat_Int, Int.reduceEq, Int.reduceNe, Int.reduceLT, Int.reduceLE, hw1]
  refine i_loop (fun x : Nat × Nat × Array Si => [some (.agg #[.func (.func fl) #[] cl, .func (.func fs) #[] cs]), some (.int .i64 a), some (.int .i64 b), some (.agg #[.func (.func fl) #[] cl, .func (.func fs) #[] cs]), some (.int .i64 (x.1 : Nat)), some (.int .i64 (x.2.1 : Nat)), none])
      (fun x H => x.1 ≤ b ∧ x.2.1 < b ∧ x.2.2.size = d.size ∧ Rw F H v x.2.2 ∧ kv v h H ∧ reverseLoop x.1 x.2.1 x.2.2 = reverseLoop a (b - 1) d) (fun x => x.2.1 - x.1) (a, b - 1, d) (by dsimp only; try simp only [Pe, and_true, true_and, and_self]) ⟨by dsimp only; omega, by dsimp only; omega, rfl, hd, kv.refl, rfl⟩ ?_
  rintro ⟨i, j, dk⟩ H ⟨hi, hj, hsk, hR, hkv, hP⟩
  dsimp only at hi hj hsk hR hP ⊢
  try simp (disch := first | omega | (simp only [PL]; omega)) only [PS, P1, P2, P3, P4, P5, P6, P7, P8, PA, PB, PC, Nat.reduceAdd, Nat.reduceSub, Nat.reduceMul, Nat.reduceLeDiff, Nat.reduceEqDiff, Nat.succ_ne_self, reduceCtorEq, Int.reduceToNat, Int.cast_ofNat_Int, Int.reduceEq, Int.reduceNe, Int.reduceLT, Int.reduceLE]
  refine i_cond (fun c => ?_) (fun c => ?_)
  rotate_left
  · try simp (disch := first | omega | (simp only [PL]; omega)) only [PS, P1, P2, P3, P4, P5, P6, P7, P8, PA, PB, PC, Nat.reduceAdd, Nat.reduceSub, Nat.reduceMul, Nat.reduceLeDiff, Nat.reduceEqDiff, Nat.succ_ne_self, reduceCtorEq, Int.reduceToNat, Int.cast_ofNat_Int, Int.reduceEq, Int.reduceNe, Int.reduceLT, Int.reduceLE]
    refine hK H ?_ hkv
    rw [← hP, reverseLoop, if_neg (by omega)]; exact hR
  have hij : i < j := by omega
  have hw2 : IntKind.i64.wrap ((i : Int) + 1) = ((i + 1 : Nat) : Int) := by rw [w64 (by omega) (by omega)]; omega
  have hw3 : IntKind.i64.wrap ((j : Int) - 1) = ((j - 1 : Nat) : Int) := by rw [w64 (by omega) (by omega)]; omega
  try simp (disch := first | omega | (simp only [PL]; omega)) only [PS, P1, P2, P3, P4, P5, P6, P7, P8, PA, PB, PC, Nat.reduceAdd, Nat.reduceSub, Nat.reduceMul, Nat.reduceLeDiff, Nat.reduceEqDiff, Nat.succ_ne_self, reduceCtorEq, Int.reduceToNat, Int.cast_ofNat_Int, Int.reduceEq, Int.reduceNe, Int.reduceLT, Int.reduceLE]
  refine hS.swap H dk i j _ hsk hR (by omega) (by omega) fun H2 hR2 hk2 => ?_
  try simp (disch := first | omega | (simp only [PL]; omega)) only [PS, P1, P2, P3, P4, P5, P6, P7, P8, PA, PB, PC, Nat.reduceAdd, Nat.reduceSub, Nat.reduceMul, Nat.reduceLeDiff, Nat.reduceEqDiff, Nat.succ_ne_self, reduceCtorEq, Int.reduceToNat, Int.cast_ofNat_Int, Int.reduceEq, Int.reduceNe, Int.reduceLT, Int.reduceLE, hw2, hw3]
  exact k_loop (i + 1, j - 1, swp dk i j) (by dsimp only; omega) (by dsimp only; try simp only [Pe, and_true, true_and, and_self]) ⟨by dsimp only; omega, by dsimp only; omega, by dsimp only; rw [size_swp]; exact hsk, hR2, hkv.trans hk2, by rw [← hP]; dsimp only; conv => rhs; rw [reverseLoop, if_pos hij]⟩

/-- all but one block stays -/
def kb (b : Nat) (h h' : Heap) : Prop := ∀ x o, h x = some o → x ≠ b → h' x = some o
theorem kb.trans {b : Nat} {h h' h'' : Heap} (a : kb b h h') (c : kb b h' h'') : kb b h h'' := fun x o h1 h2 => c x o (a x o h1 h2) h2
theorem kb.of_le {b : Nat} {h h' : Heap} (a : Heap.le h h') : kb b h h' := fun x o h1 _ => a x o h1
theorem Rw.kb {F h h' : Heap} {v : Value} {d : Array Si} {b : Nat} (a : Rw F h v d) (hF : F b = none) (hv : blkOf v ≠ some b) (hk : kb b h h') : Rw F h' v d := by
  have hle : Heap.le F h' := by
    intro x o hx
    refine hk x o (a.1 x o hx) ?_
    rintro rfl; rw [hF] at hx; cases hx
  refine SlB.own (a.slb.1.same fun x hx => ?_) hle a.slb.2
  cases hh : h x with
  | none => exact absurd hh (a.slb.1.mem hx)
  | some o => exact hk x o hh (by rintro rfl; exact hv hx)
theorem kb.kv {b : Nat} {v : Value} {h h' : Heap} (k : kb b h h') (hn : h b = none) : kv v h h' := fun x o h1 _ => k x o h1 (by rintro rfl; rw [hn] at h1; cases h1)

def S129 (N : Num) (Γ : Ctx) : Spec := fun args h K => ∃ F v fl fs cl cs lt d bs, ∃ a b s : Nat, args = [.agg #[.func (.func fl) #[] cl, .func (.func fs) #[] cs], .int .i64 a, .int .i64 b, .pointer (some ⟨bs, 0, none⟩)] ∧ So N Γ F v fl fs cl cs lt d.size ∧ Rw F h v d ∧ a < d.size ∧ b < d.size ∧
  objAt h ⟨bs, 0, none⟩ [.int .i64 s] ∧ F bs = none ∧ blkOf v ≠ some bs ∧ s ≤ 1000 ∧
  ∀ h', Rw F h' v d → objAt h' ⟨bs, 0, none⟩ [.int .i64 ((order2 lt d a b s).2.2 : Nat)] → kb bs h h' → K (.tuple #[.int .i64 ((order2 lt d a b s).1 : Nat), .int .i64 ((order2 lt d a b s).2.1 : Nat)]) h'
theorem F129_ok {N : Num} {Γ : Ctx} [GoodC Γ] : Sat (S129 N Γ) (SF N Γ F129) := by
  rintro _ h K ⟨F, v, fl, fs, cl, cs, lt, d, bs, a, b, s, rfl, hS, hd, ha, hb, ho, hF, hv, hs, hK⟩
  have hsz := hS.size
  unfold order2 at hK
  refine i_fun rfl ?_
  simp only [F129, env0, List.map, List.length, List.replicate, List.cons_append, List.nil_append, Nat.reduceSub, Nat.reduceAdd]
  try simp (disch := first | omega | (simp only [PL]; omega)) only [PS, P1, P2, P3, P4, P5, P6, P7, P8, PA, PB, PC, Nat.reduceAdd, Nat.reduceSub, Nat.reduceMul, Nat.reduceLeDiff, Nat.reduceEqDiff, Nat.succ_ne_self, reduceCtorEq, Int.reduceToNat, Int.cast_ofNat_Int, Int.reduceEq, Int.reduceNe, Int.reduceLT, Int.reduceLE]
  refine hS.less h d b a _ rfl hd (by omega) (by omega) fun h1 hle1 => ?_
  have ho1 := ho.le hle1
  cases hl : lt d[b]! d[a]! with
  | true =>
    have hc : h1.cell ⟨bs, 0, none⟩ = some (.int .i64 s) := ho1.rules.2.1 (by simp)
    have hw : IntKind.i64.wrap ((s : Int) + 1) = ((s + 1 : Nat) : Int) := by rw [w64 (by omega) (by omega)]; omega
    rw [hl] at hK
    try simp (disch := first | omega | (simp only [PL]; omega)) only [PS, P1, P2, P3, P4, P5, P6, P7, P8, PA, PB, PC, Nat.reduceAdd, Nat.reduceSub, Nat.reduceMul, Nat.reduceLeDiff, Nat.reduceEqDiff, Nat.succ_ne_self, reduceCtorEq, Int.reduceToNat, Int.cast_ofNat_Int, Int.reduceEq, Int.reduceNe, Int.reduceLT, Int.reduceLE, hc, hw]
    refine i_st ho1 0 1 rfl rfl (by omega) (by simp) fun o hob _ => ?_
    have hob2 : objAt (h1.set bs o) ⟨bs, 0, none⟩ [.int .i64 (s + 1 : Nat)] := hob h1 rfl
    have hkb : kb bs h (h1.set bs o) := fun x o' hx hne => by rw [Heap.set_ne hne]; exact hle1 x o' hx
    try simp (disch := first | omega | (simp only [PL]; omega)) only [PS, P1, P2, P3, P4, P5, P6, P7, P8, PA, PB, PC, Nat.reduceAdd, Nat.reduceSub, Nat.reduceMul, Nat.reduceLeDiff, Nat.reduceEqDiff, Nat.succ_ne_self, reduceCtorEq, Int.reduceToNat, Int.cast_ofNat_Int, Int.reduceEq, Int.reduceNe, Int.reduceLT, Int.reduceLE]
    exact hK _ (hd.kb hF hv hkb) hob2 hkb
  | false =>
    rw [hl] at hK
    try simp (disch := first | omega | (simp only [PL]; omega)) only [PS, P1, P2, P3, P4, P5, P6, P7, P8, PA, PB, PC, Nat.reduceAdd, Nat.reduceSub, Nat.reduceMul, Nat.reduceLeDiff, Nat.reduceEqDiff, Nat.succ_ne_self, reduceCtorEq, Int.reduceToNat, Int.cast_ofNat_Int, Int.reduceEq, Int.reduceNe, Int.reduceLT, Int.reduceLE]
    exact hK h1 (hd.le hle1) ho1 (kb.of_le hle1)
theorem order2_rng {lt : Si → Si → Bool} {d : Array Si} {a b s n : Nat} (ha : a < n) (hb : b < n) : (order2 lt d a b s).1 < n ∧ (order2 lt d a b s).2.1 < n ∧ (order2 lt d a b s).2.2 ≤ s + 1 := by
  unfold order2; split <;> (dsimp only; omega)
def S116 (N : Num) (Γ : Ctx) : Spec := fun args h K => ∃ F v fl fs cl cs lt d bs, ∃ a b c s : Nat, args = [.agg #[.func (.func fl) #[] cl, .func (.func fs) #[] cs], .int .i64 a, .int .i64 b, .int .i64 c, .pointer (some ⟨bs, 0, none⟩)] ∧ So N Γ F v fl fs cl cs lt d.size ∧ Rw F h v d ∧ a < d.size ∧ b < d.size ∧ c < d.size ∧
  objAt h ⟨bs, 0, none⟩ [.int .i64 s] ∧ F bs = none ∧ blkOf v ≠ some bs ∧ s ≤ 500 ∧
  ∀ h', Rw F h' v d → objAt h' ⟨bs, 0, none⟩ [.int .i64 ((median lt d a b c s).2 : Nat)] → kb bs h h' → K (.int .i64 ((median lt d a b c s).1 : Nat)) h'
theorem F116_ok {N : Num} {Γ : Ctx} [GoodC Γ] (H129 : Sat (S129 N Γ) (Γ 129)) : Sat (S116 N Γ) (SF N Γ F116) := by
  rintro _ h K ⟨F, v, fl, fs, cl, cs, lt, d, bs, a, b, c, s, rfl, hS, hd, ha, hb, hc, ho, hF, hv, hs, hK⟩
  unfold median at hK
  refine i_fun rfl ?_
  simp only [F116, env0, List.map, List.length, List.replicate, List.cons_append, List.nil_append, Nat.reduceSub, Nat.reduceAdd]
  try simp (disch := first | omega | (simp only [PL]; omega)) only [PS, P1, P2, P3, P4, P5, P6, P7, P8, PA, PB, PC, Nat.reduceAdd, Nat.reduceSub, Nat.reduceMul, Nat.reduceLeDiff, Nat.reduceEqDiff, Nat.succ_ne_self, reduceCtorEq, Int.reduceToNat, Int.cast_ofNat_Int, Int.reduceEq, Int.reduceNe, Int.reduceLT, Int.reduceLE]
  refine i_call H129 ⟨F, v, fl, fs, cl, cs, lt, d, bs, a, b, s, rfl, hS, hd, ha, hb, ho, hF, hv, by omega, fun h1 hd1 ho1 k1 => ?_⟩
  have r1 := order2_rng (lt := lt) (d := d) (s := s) ha hb
  generalize order2 lt d a b s = q1 at *
  obtain ⟨x1, y1, s1⟩ := q1
  dsimp only at r1 ho1 hK ⊢
  try simp (disch := first | omega | (simp only [PL]; omega)) only [PS, P1, P2, P3, P4, P5, P6, P7, P8, PA, PB, PC, Nat.reduceAdd, Nat.reduceSub, Nat.reduceMul, Nat.reduceLeDiff, Nat.reduceEqDiff, Nat.succ_ne_self, reduceCtorEq, Int.reduceToNat, Int.cast_ofNat_Int, Int.reduceEq, Int.reduceNe, Int.reduceLT, Int.reduceLE]
  refine i_call H129 ⟨F, v, fl, fs, cl, cs, lt, d, bs, y1, c, s1, rfl, hS, hd1, r1.2.1, hc, ho1, hF, hv, by omega, fun h2 hd2 ho2 k2 => ?_⟩
  have r2 := order2_rng (lt := lt) (d := d) (s := s1) r1.2.1 hc
  generalize order2 lt d y1 c s1 = q2 at *
  obtain ⟨x2, y2, s2⟩ := q2
  dsimp only at r2 ho2 hK ⊢
  try simp (disch := first | omega | (simp only [PL]; omega)) only [PS, P1, P2, P3, P4, P5, P6, P7, P8, PA, PB, PC, Nat.reduceAdd, Nat.reduceSub, Nat.reduceMul, Nat.reduceLeDiff, Nat.reduceEqDiff, Nat.succ_ne_self, reduceCtorEq, Int.reduceToNat, Int.cast_ofNat_Int, Int.reduceEq, Int.reduceNe, Int.reduceLT, Int.reduceLE]
  refine i_call H129 ⟨F, v, fl, fs, cl, cs, lt, d, bs, x1, x2, s2, rfl, hS, hd2, r1.1, r2.1, ho2, hF, hv, by omega, fun h3 hd3 ho3 k3 => ?_⟩
  generalize order2 lt d x1 x2 s2 = q3 at *
  obtain ⟨x3, y3, s3⟩ := q3
  dsimp only at ho3 hK ⊢
  try simp (disch := first | omega | (simp only [PL]; omega)) only [PS, P1, P2, P3, P4, P5, P6, P7, P8, PA, PB, PC, Nat.reduceAdd, Nat.reduceSub, Nat.reduceMul, Nat.reduceLeDiff, Nat.reduceEqDiff, Nat.succ_ne_self, reduceCtorEq, Int.reduceToNat, Int.cast_ofNat_Int, Int.reduceEq, Int.reduceNe, Int.reduceLT, Int.reduceLE]
  exact hK h3 hd3 ho3 ((k1.trans k2).trans k3)
theorem median_rng {lt : Si → Si → Bool} {d : Array Si} {a b c s n : Nat} (ha : a < n) (hb : b < n) (hc : c < n) : (median lt d a b c s).1 < n ∧ (median lt d a b c s).2 ≤ s + 3 := by
  unfold median
  have r1 := order2_rng (lt := lt) (d := d) (s := s) ha hb
  have r2 := order2_rng (lt := lt) (d := d) (s := (order2 lt d a b s).2.2) r1.2.1 hc
  have r3 := order2_rng (lt := lt) (d := d) (s := (order2 lt d (order2 lt d a b s).2.1 c (order2 lt d a b s).2.2).2.2) r1.1 r2.1
  dsimp only
  omega
def S115 (N : Num) (Γ : Ctx) : Spec := fun args h K => ∃ F v fl fs cl cs lt d bs, ∃ a s : Nat, args = [.agg #[.func (.func fl) #[] cl, .func (.func fs) #[] cs], .int .i64 a, .pointer (some ⟨bs, 0, none⟩)] ∧ So N Γ F v fl fs cl cs lt d.size ∧ Rw F h v d ∧ 1 ≤ a ∧ a + 1 < d.size ∧
  objAt h ⟨bs, 0, none⟩ [.int .i64 s] ∧ F bs = none ∧ blkOf v ≠ some bs ∧ s ≤ 500 ∧
  ∀ h', Rw F h' v d → objAt h' ⟨bs, 0, none⟩ [.int .i64 ((medianAdjacent lt d a s).2 : Nat)] → kb bs h h' → K (.int .i64 ((medianAdjacent lt d a s).1 : Nat)) h'
theorem F115_ok {N : Num} {Γ : Ctx} [GoodC Γ] (H116 : Sat (S116 N Γ) (Γ 116)) : Sat (S115 N Γ) (SF N Γ F115) := by
  rintro _ h K ⟨F, v, fl, fs, cl, cs, lt, d, bs, a, s, rfl, hS, hd, ha, hb, ho, hF, hv, hs, hK⟩
  have hsz := hS.size
  unfold medianAdjacent at hK
  refine i_fun rfl ?_
  simp only [F115, env0, List.map, List.length, List.replicate, List.cons_append, List.nil_append, Nat.reduceSub, Nat.reduceAdd]
  have hw1 : IntKind.i64.wrap ((a : Int) - 1) = ((a - 1 : Nat) : Int) := by rw [w64 (by omega) (by omega)]; omega
  have hw2 : IntKind.i64.wrap ((a : Int) + 1) = ((a + 1 : Nat) : Int) := by rw [w64 (by omega) (by omega)]; omega
  try simp (disch := first | omega | (simp only [PL]; omega)) only [PS, P1, P2, P3, P4, P5, P6, P7, P8, PA, PB, PC, Nat.reduceAdd, Nat.reduceSub, Nat.reduceMul, Nat.reduceLeDiff, Nat.reduceEqDiff, Nat.succ_ne_self, reduceCtorEq, Int.reduceToNat, Int.cast_ofNat_Int, Int.reduceEq, Int.reduceNe, Int.reduceLT, Int.reduceLE, hw1, hw2]
  refine i_call H116 ⟨F, v, fl, fs, cl, cs, lt, d, bs, a - 1, a, a + 1, s, rfl, hS, hd, by omega, by omega, by omega, ho, hF, hv, hs, fun h1 hd1 ho1 k1 => ?_⟩
  try simp (disch := first | omega | (simp only [PL]; omega)) only [PS, P1, P2, P3, P4, P5, P6, P7, P8, PA, PB, PC, Nat.reduceAdd, Nat.reduceSub, Nat.reduceMul, Nat.reduceLeDiff, Nat.reduceEqDiff, Nat.succ_ne_self, reduceCtorEq, Int.reduceToNat, Int.cast_ofNat_Int, Int.reduceEq, Int.reduceNe, Int.reduceLT, Int.reduceLE]
  exact hK h1 hd1 ho1 k1
end Go.Cw
namespace Go.Cw
open Go Go.Sort Go.Proofs

def hintZ : Hint → Int
  | .unknown => 0
  | .increasing => 1
  | .decreasing => 2
def rawP (lt : Si → Si → Bool) (d : Array Si) (l i j k : Nat) : Nat × Nat := (if l ≥ 8 then (if l ≥ 50 then median lt d (medianAdjacent lt d i 0).1 (medianAdjacent lt d j (medianAdjacent lt d i 0).2).1 (medianAdjacent lt d k (medianAdjacent lt d j (medianAdjacent lt d i 0).2).2).1 (medianAdjacent lt d k (medianAdjacent lt d j (medianAdjacent lt d i 0).2).2).2 else median lt d i j k 0) else (j, 0) : Nat × Nat)
theorem cp_eq {lt : Si → Si → Bool} {d : Array Si} {a b l i j k : Nat} (hl : l = b - a) (hi : i = a + l / 4 * 1) (hj : j = a + l / 4 * 2) (hk : k = a + l / 4 * 3) :
    choosePivot lt d a b = ((rawP lt d l i j k).1, if (rawP lt d l i j k).2 = 0 then .increasing else if (rawP lt d l i j k).2 = 12 then .decreasing else .unknown) := by
  subst hl hi hj hk; rfl
def S101 (N : Num) (Γ : Ctx) : Spec := fun args h K => ∃ F v fl fs cl cs lt d, ∃ a b : Nat, args = [.agg #[.func (.func fl) #[] cl, .func (.func fs) #[] cs], .int .i64 a, .int .i64 b] ∧ So N Γ F v fl fs cl cs lt d.size ∧ Rw F h v d ∧ a < b ∧ b ≤ d.size ∧
  ∀ h', Rw F h' v d → kv v h h' → K (.tuple #[.int .i64 ((choosePivot lt d a b).1 : Nat), .int .i64 (hintZ (choosePivot lt d a b).2)]) h'
theorem F101_ok {N : Num} {Γ : Ctx} [GoodC Γ] (H115 : Sat (S115 N Γ) (Γ 115)) (H116 : Sat (S116 N Γ) (Γ 116)) : Sat (S101 N Γ) (SF N Γ F101) := by
  rintro _ h K ⟨F, v, fl, fs, cl, cs, lt, d, a, b, rfl, hS, hd, hab, hb, hK⟩
  have hsz := hS.size
  obtain ⟨l, hl⟩ : ∃ l, l = b - a := ⟨_, rfl⟩
  refine i_fun rfl ?_
  simp only [F101, env0, List.map, List.length, List.replicate, List.cons_append, List.nil_append, Nat.reduceSub, Nat.reduceAdd]
  have hw1 : IntKind.i64.wrap ((b : Int) - a) = (l : Int) := by rw [w64 (by omega) (by omega)]; omega
  have hq : Int.tdiv (l : Int) 4 = ((l / 4 : Nat) : Int) := rfl
  try simp (disch := first | omega | (simp only [PL]; omega)) only [PS, P1, P2, P3, P4, P5, P6, P7, P8, PA, PB, PC, Nat.reduceAdd, Nat.reduceSub, Nat.reduceMul, Nat.reduceLeDiff, Nat.reduceEqDiff, Nat.succ_ne_self, reduceCtorEq, Int.reduceToNat, Int.cast_ofNat_Int, Int.reduceEq, Int.reduceNe, Int.reduceLT, Int.reduceLE, hw1]
  refine i_newO fun b7 h1 hle1 hb7 ho => ?_
  have ho1 : objAt h1 ⟨b7, 0, none⟩ [.int .i64 (0 : Nat)] := ho.le (fr_le _ _)
  have hF7 : F b7 = none := le_none hd.1 b7 hb7
  have hv7 : blkOf v ≠ some b7 := fun e => hd.slb.1.mem e hb7
  have hd1 := hd.le hle1
  obtain ⟨i, hi⟩ : ∃ i, i = a + l / 4 * 1 := ⟨_, rfl⟩
  obtain ⟨j, hj⟩ : ∃ j, j = a + l / 4 * 2 := ⟨_, rfl⟩
  obtain ⟨k, hk⟩ : ∃ k, k = a + l / 4 * 3 := ⟨_, rfl⟩
  rw [cp_eq hl hi hj hk] at hK
  have hwi : IntKind.i64.wrap ((a : Int) + IntKind.i64.wrap (((l / 4 : Nat) : Int) * 1)) = (i : Int) := by rw [w64 (n := ((l / 4 : Nat) : Int) * 1) (by omega) (by omega), w64 (by omega) (by omega)]; omega
  have hwj : IntKind.i64.wrap ((a : Int) + IntKind.i64.wrap (((l / 4 : Nat) : Int) * 2)) = (j : Int) := by rw [w64 (n := ((l / 4 : Nat) : Int) * 2) (by omega) (by omega), w64 (by omega) (by omega)]; omega
  have hwk : IntKind.i64.wrap ((a : Int) + IntKind.i64.wrap (((l / 4 : Nat) : Int) * 3)) = (k : Int) := by rw [w64 (n := ((l / 4 : Nat) : Int) * 3) (by omega) (by omega), w64 (by omega) (by omega)]; omega
  have hwq : IntKind.i64.wrap ((l / 4 : Nat) : Int) = ((l / 4 : Nat) : Int) := w64 (by omega) (by omega)
  have hi' : a + l / 4 = i := by omega
  have hj' : a + l / 4 * 2 = j := by omega
  have hk' : a + l / 4 * 3 = k := by omega
  try simp (disch := first | omega | (simp only [PL]; omega)) only [PS, P1, P2, P3, P4, P5, P6, P7, P8, PA, PB, PC, Nat.reduceAdd, Nat.reduceSub, Nat.reduceMul, Nat.reduceLeDiff, Nat.reduceEqDiff, Nat.succ_ne_self, reduceCtorEq, Int.reduceToNat, Int.cast_ofNat_Int, Int.reduceEq, Int.reduceNe, Int.reduceLT, Int.reduceLE, hq, hwq, hwi, hwj, hwk]
  simp only [hi', hj', hk']
  generalize hr : rawP lt d l i j k = r at *
  unfold rawP at hr
  refine i_meet_cond (fun env H => Rw F H v d ∧ kb b7 h1 H ∧ objAt H ⟨b7, 0, none⟩ [.int .i64 (r.2 : Nat)] ∧ env = [some (.agg #[.func (.func fl) #[] cl, .func (.func fs) #[] cs]), some (.int .i64 a), some (.int .i64 b), some (.agg #[.func (.func fl) #[] cl, .func (.func fs) #[] cs]), some (.int .i64 0), some (.int .i64 0), some (.int .i64 l), some (.pointer (some ⟨b7, 0, none⟩)), none, some (.int .i64 (r.1 : Nat)), none, none, none, none, none, none, none, none, none, none]) ?_ ?_
  rotate_left
  · refine i_cond (fun c1 => ?_) (fun c1 => ?_)
    rotate_left
    · rw [if_neg (by omega)] at hr
      subst hr
      try simp (disch := first | omega | (simp only [PL]; omega)) only [PS, P1, P2, P3, P4, P5, P6, P7, P8, PA, PB, PC, Nat.reduceAdd, Nat.reduceSub, Nat.reduceMul, Nat.reduceLeDiff, Nat.reduceEqDiff, Nat.succ_ne_self, reduceCtorEq, Int.reduceToNat, Int.cast_ofNat_Int, Int.reduceEq, Int.reduceNe, Int.reduceLT, Int.reduceLE]
      exact k_meet _ (by try simp only [Pe, and_true, true_and, and_self]) ⟨hd1, fun x o h _ => h, ho1, rfl⟩
    rw [if_pos (by omega)] at hr
    try simp (disch := first | omega | (simp only [PL]; omega)) only [PS, P1, P2, P3, P4, P5, P6, P7, P8, PA, PB, PC, Nat.reduceAdd, Nat.reduceSub, Nat.reduceMul, Nat.reduceLeDiff, Nat.reduceEqDiff, Nat.succ_ne_self, reduceCtorEq, Int.reduceToNat, Int.cast_ofNat_Int, Int.reduceEq, Int.reduceNe, Int.reduceLT, Int.reduceLE]
    by_cases h50 : l ≥ 50
    · have h50' : ((50 : Int) ≤ (l : Int)) = True := by rw [eq_iff_iff]; simp; omega
      rw [if_pos h50] at hr
      try simp (disch := first | omega | (simp only [PL]; omega)) only [PS, P1, P2, P3, P4, P5, P6, P7, P8, PA, PB, PC, Nat.reduceAdd, Nat.reduceSub, Nat.reduceMul, Nat.reduceLeDiff, Nat.reduceEqDiff, Nat.succ_ne_self, reduceCtorEq, Int.reduceToNat, Int.cast_ofNat_Int, Int.reduceEq, Int.reduceNe, Int.reduceLT, Int.reduceLE, h50']
      refine i_call H115 ⟨F, v, fl, fs, cl, cs, lt, d, b7, i, 0, rfl, hS, hd1, by omega, by omega, ho1, hF7, hv7, by omega, fun h2 hd2 ho2 k2 => ?_⟩
      have r1 := median_rng (lt := lt) (d := d) (s := 0) (n := d.size) (show i - 1 < d.size by omega) (show i < d.size by omega) (show i + 1 < d.size by omega)
      change (medianAdjacent lt d i 0).1 < d.size ∧ (medianAdjacent lt d i 0).2 ≤ 0 + 3 at r1
      generalize medianAdjacent lt d i 0 = q1 at *
      try simp (disch := first | omega | (simp only [PL]; omega)) only [PS, P1, P2, P3, P4, P5, P6, P7, P8, PA, PB, PC, Nat.reduceAdd, Nat.reduceSub, Nat.reduceMul, Nat.reduceLeDiff, Nat.reduceEqDiff, Nat.succ_ne_self, reduceCtorEq, Int.reduceToNat, Int.cast_ofNat_Int, Int.reduceEq, Int.reduceNe, Int.reduceLT, Int.reduceLE]
      refine i_call H115 ⟨F, v, fl, fs, cl, cs, lt, d, b7, j, q1.2, rfl, hS, hd2, by omega, by omega, ho2, hF7, hv7, by omega, fun h3 hd3 ho3 k3 => ?_⟩
      have r2 := median_rng (lt := lt) (d := d) (s := q1.2) (n := d.size) (show j - 1 < d.size by omega) (show j < d.size by omega) (show j + 1 < d.size by omega)
      change (medianAdjacent lt d j q1.2).1 < d.size ∧ (medianAdjacent lt d j q1.2).2 ≤ q1.2 + 3 at r2
      generalize medianAdjacent lt d j q1.2 = q2 at *
      try simp (disch := first | omega | (simp only [PL]; omega)) only [PS, P1, P2, P3, P4, P5, P6, P7, P8, PA, PB, PC, Nat.reduceAdd, Nat.reduceSub, Nat.reduceMul, Nat.reduceLeDiff, Nat.reduceEqDiff, Nat.succ_ne_self, reduceCtorEq, Int.reduceToNat, Int.cast_ofNat_Int, Int.reduceEq, Int.reduceNe, Int.reduceLT, Int.reduceLE]
      refine i_call H115 ⟨F, v, fl, fs, cl, cs, lt, d, b7, k, q2.2, rfl, hS, hd3, by omega, by omega, ho3, hF7, hv7, by omega, fun h4 hd4 ho4 k4 => ?_⟩
      have r3 := median_rng (lt := lt) (d := d) (s := q2.2) (n := d.size) (show k - 1 < d.size by omega) (show k < d.size by omega) (show k + 1 < d.size by omega)
      change (medianAdjacent lt d k q2.2).1 < d.size ∧ (medianAdjacent lt d k q2.2).2 ≤ q2.2 + 3 at r3
      generalize medianAdjacent lt d k q2.2 = q3 at *
      try simp (disch := first | omega | (simp only [PL]; omega)) only [PS, P1, P2, P3, P4, P5, P6, P7, P8, PA, PB, PC, Nat.reduceAdd, Nat.reduceSub, Nat.reduceMul, Nat.reduceLeDiff, Nat.reduceEqDiff, Nat.succ_ne_self, reduceCtorEq, Int.reduceToNat, Int.cast_ofNat_Int, Int.reduceEq, Int.reduceNe, Int.reduceLT, Int.reduceLE]
      refine i_call H116 ⟨F, v, fl, fs, cl, cs, lt, d, b7, q1.1, q2.1, q3.1, q3.2, rfl, hS, hd4, r1.1, r2.1, r3.1, ho4, hF7, hv7, by omega, fun h5 hd5 ho5 k5 => ?_⟩
      rw [hr] at ho5 ⊢
      try simp (disch := first | omega | (simp only [PL]; omega)) only [PS, P1, P2, P3, P4, P5, P6, P7, P8, PA, PB, PC, Nat.reduceAdd, Nat.reduceSub, Nat.reduceMul, Nat.reduceLeDiff, Nat.reduceEqDiff, Nat.succ_ne_self, reduceCtorEq, Int.reduceToNat, Int.cast_ofNat_Int, Int.reduceEq, Int.reduceNe, Int.reduceLT, Int.reduceLE]
      exact k_meet _ (by try simp only [Pe, and_true, true_and, and_self]) ⟨hd5, ((k2.trans k3).trans k4).trans k5, ho5, rfl⟩
    · have h50' : ((50 : Int) ≤ (l : Int)) = False := by rw [eq_iff_iff]; simp; omega
      rw [if_neg h50] at hr
      try simp (disch := first | omega | (simp only [PL]; omega)) only [PS, P1, P2, P3, P4, P5, P6, P7, P8, PA, PB, PC, Nat.reduceAdd, Nat.reduceSub, Nat.reduceMul, Nat.reduceLeDiff, Nat.reduceEqDiff, Nat.succ_ne_self, reduceCtorEq, Int.reduceToNat, Int.cast_ofNat_Int, Int.reduceEq, Int.reduceNe, Int.reduceLT, Int.reduceLE, h50']
      refine i_call H116 ⟨F, v, fl, fs, cl, cs, lt, d, b7, i, j, k, 0, rfl, hS, hd1, by omega, by omega, by omega, ho1, hF7, hv7, by omega, fun h5 hd5 ho5 k5 => ?_⟩
      rw [hr] at ho5 ⊢
      try simp (disch := first | omega | (simp only [PL]; omega)) only [PS, P1, P2, P3, P4, P5, P6, P7, P8, PA, PB, PC, Nat.reduceAdd, Nat.reduceSub, Nat.reduceMul, Nat.reduceLeDiff, Nat.reduceEqDiff, Nat.succ_ne_self, reduceCtorEq, Int.reduceToNat, Int.cast_ofNat_Int, Int.reduceEq, Int.reduceNe, Int.reduceLT, Int.reduceLE]
      exact k_meet _ (by try simp only [Pe, and_true, true_and, and_self]) ⟨hd5, k5, ho5, rfl⟩
  rintro env H ⟨hdH, hkb, hoH, rfl⟩
  have hc : H.cell ⟨b7, 0, none⟩ = some (.int .i64 (r.2 : Nat)) := hoH.rules.2.1 (by simp)
  have hkv : kv v h H := ((kb.of_le hle1).trans hkb).kv hb7
  have hKK := hK H hdH hkv
  try simp (disch := first | omega | (simp only [PL]; omega)) only [PS, P1, P2, P3, P4, P5, P6, P7, P8, PA, PB, PC, Nat.reduceAdd, Nat.reduceSub, Nat.reduceMul, Nat.reduceLeDiff, Nat.reduceEqDiff, Nat.succ_ne_self, reduceCtorEq, Int.reduceToNat, Int.cast_ofNat_Int, Int.reduceEq, Int.reduceNe, Int.reduceLT, Int.reduceLE, hc]
  refine i_cond (fun c1 => ?_) (fun c1 => ?_)
  · rw [if_pos (by omega)] at hKK
    try simp (disch := first | omega | (simp only [PL]; omega)) only [PS, P1, P2, P3, P4, P5, P6, P7, P8, PA, PB, PC, Nat.reduceAdd, Nat.reduceSub, Nat.reduceMul, Nat.reduceLeDiff, Nat.reduceEqDiff, Nat.succ_ne_self, reduceCtorEq, Int.reduceToNat, Int.cast_ofNat_Int, Int.reduceEq, Int.reduceNe, Int.reduceLT, Int.reduceLE]
    exact hKK
  rw [if_neg (by omega)] at hKK
  try simp (disch := first | omega | (simp only [PL]; omega)) only [PS, P1, P2, P3, P4, P5, P6, P7, P8, PA, PB, PC, Nat.reduceAdd, Nat.reduceSub, Nat.reduceMul, Nat.reduceLeDiff, Nat.reduceEqDiff, Nat.succ_ne_self, reduceCtorEq, Int.reduceToNat, Int.cast_ofNat_Int, Int.reduceEq, Int.reduceNe, Int.reduceLT, Int.reduceLE]
  refine i_cond (fun c2 => ?_) (fun c2 => ?_)
  · rw [if_pos (by omega)] at hKK
    try simp (disch := first | omega | (simp only [PL]; omega)) only [PS, P1, P2, P3, P4, P5, P6, P7, P8, PA, PB, PC, Nat.reduceAdd, Nat.reduceSub, Nat.reduceMul, Nat.reduceLeDiff, Nat.reduceEqDiff, Nat.succ_ne_self, reduceCtorEq, Int.reduceToNat, Int.cast_ofNat_Int, Int.reduceEq, Int.reduceNe, Int.reduceLT, Int.reduceLE]
    exact hKK
  · rw [if_neg (by omega)] at hKK
    try simp (disch := first | omega | (simp only [PL]; omega)) only [PS, P1, P2, P3, P4, P5, P6, P7, P8, PA, PB, PC, Nat.reduceAdd, Nat.reduceSub, Nat.reduceMul, Nat.reduceLeDiff, Nat.reduceEqDiff, Nat.succ_ne_self, reduceCtorEq, Int.reduceToNat, Int.cast_ofNat_Int, Int.reduceEq, Int.reduceNe, Int.reduceLT, Int.reduceLE]
    exact hKK
end Go.Cw
namespace Go.Cw
open Go Go.Sort Go.Proofs

theorem scanSorted_rng {lt : Si → Si → Bool} {d : Array Si} {b : Nat} : ∀ (n i : Nat), b - i ≤ n → i ≤ b → i ≤ scanSorted lt d b i ∧ scanSorted lt d b i ≤ b := by
  intro n
  induction n with
  | zero =>
    intro i h hi
    rw [scanSorted_stop _ _ _ _ (.inl (by omega))]; omega
  | succ n ih =>
    intro i h hi
    by_cases hc : i < b
    · cases hl : lt d[i]! d[i - 1]! with
      | true => rw [scanSorted_stop _ _ _ _ (.inr hl)]; omega
      | false =>
        rw [scanSorted_go _ _ _ _ hc hl]
        have := ih (i + 1) (by omega) (by omega)
        omega
    · rw [scanSorted_stop _ _ _ _ (.inl hc)]; omega
def piDown (lt : Si → Si → Bool) (a i : Nat) (d : Array Si) : Array Si := if i - a ≥ 2 then shiftDown lt (i - 1) d else d
def piUp (lt : Si → Si → Bool) (b i : Nat) (d : Array Si) : Array Si := if b - i ≥ 2 then shiftUp lt b (i + 1) d else d
theorem pIns_succ (lt : Si → Si → Bool) (a b s i : Nat) (d : Array Si) : partialIns lt a b (s + 1) i d =
    if scanSorted lt d b i = b then (d, true) else if b - a < 50 then (d, false) else
      partialIns lt a b s (scanSorted lt d b i) (piUp lt b (scanSorted lt d b i) (piDown lt a (scanSorted lt d b i) (swp d (scanSorted lt d b i) (scanSorted lt d b i - 1)))) := by
  rw [partialIns]; rfl

def S103 (N : Num) (Γ : Ctx) : Spec := fun args h K => ∃ F v fl fs cl cs lt d, ∃ a b : Nat, args = [.agg #[.func (.func fl) #[] cl, .func (.func fs) #[] cs], .int .i64 a, .int .i64 b] ∧ So N Γ F v fl fs cl cs lt d.size ∧ Rw F h v d ∧ a < b ∧ b ≤ d.size ∧
  ∀ h', Rw F h' v (partialInsertionSort lt d a b).1 → kv v h h' → K (.bool (partialInsertionSort lt d a b).2) h'
theorem F103_ok {N : Num} {Γ : Ctx} [GoodC Γ] : Sat (S103 N Γ) (SF N Γ F103) := by
  rintro _ h K ⟨F, v, fl, fs, cl, cs, lt, d, a, b, rfl, hS, hd, hab, hb, hK⟩
  have hsz := hS.size
  unfold partialInsertionSort at hK
  refine i_fun rfl ?_
  simp only [F103, env0, List.map, List.length, List.replicate, List.cons_append, List.nil_append, Nat.reduceSub, Nat.reduceAdd]
  have hwa : IntKind.i64.wrap ((a : Int) + 1) = ((a + 1 : Nat) : Int) := by rw [w64 (by omega) (by omega)]; omega
  have hwba : IntKind.i64.wrap ((b : Int) - a) = ((b - a : Nat) : Int) := by rw [w64 (by omega) (by omega)]; omega
  try simp (disch := first | omega | (simp only [PL]; omega)) only [PS, P1, P2, P3, P4, P5, P6, P7, P8, PA, PB, PC, Nat.reduceAdd, Nat.reduceSub, Nat.reduceMul, Nat.reduceLeDiff, Nat.reduceEqDiff, Nat.succ_ne_self, reduceCtorEq, Int.reduceToNat, Int.cast_ofNat_Int, Int.reduceEq, Int.reduceNe, Int.reduceLT, Int.reduceLE, hwa]
  refine i_loop (fun x : Nat × Nat × Array Si => [some (.agg #[.func (.func fl) #[] cl, .func (.func fs) #[] cs]), some (.int .i64 a), some (.int .i64 b), some (.agg #[.func (.func fl) #[] cl, .func (.func fs) #[] cs]), none, some (.int .i64 (x.2.1 : Nat)), some (.int .i64 (x.1 : Nat)), none, none, none, none, none, none, none, none, none, none, none, none, none, none, none, none])
    (fun x H => x.1 ≤ 5 ∧ a < x.2.1 ∧ x.2.1 ≤ b ∧ x.2.2.size = d.size ∧ Rw F H v x.2.2 ∧ kv v h H ∧ partialIns lt a b (5 - x.1) x.2.1 x.2.2 = partialIns lt a b 5 (a + 1) d) (fun x => 5 - x.1) (0, a + 1, d) (by dsimp only; try simp only [Pe, and_true, true_and, and_self]; rfl) ⟨by dsimp only; omega, by dsimp only; omega, by dsimp only; omega, rfl, hd, kv.refl, rfl⟩ ?_
  rintro ⟨st, i, dk⟩ H ⟨hst, hai, hib, hsk, hR, hkv, hP⟩
  dsimp only at hst hai hib hsk hR hP ⊢
  have hws : IntKind.i64.wrap ((st : Int) + 1) = ((st + 1 : Nat) : Int) := by rw [w64 (by omega) (by omega)]; omega
  try simp (disch := first | omega | (simp only [PL]; omega)) only [PS, P1, P2, P3, P4, P5, P6, P7, P8, PA, PB, PC, Nat.reduceAdd, Nat.reduceSub, Nat.reduceMul, Nat.reduceLeDiff, Nat.reduceEqDiff, Nat.succ_ne_self, reduceCtorEq, Int.reduceToNat, Int.cast_ofNat_Int, Int.reduceEq, Int.reduceNe, Int.reduceLT, Int.reduceLE]
  refine i_cond (fun c => ?_) (fun c => ?_)
  rotate_left
  · have : st = 5 := by omega
    subst this
    rw [show 5 - 5 = 0 from rfl, partialIns] at hP
    rw [← hP] at hK
    try simp (disch := first | omega | (simp only [PL]; omega)) only [PS, P1, P2, P3, P4, P5, P6, P7, P8, PA, PB, PC, Nat.reduceAdd, Nat.reduceSub, Nat.reduceMul, Nat.reduceLeDiff, Nat.reduceEqDiff, Nat.succ_ne_self, reduceCtorEq, Int.reduceToNat, Int.cast_ofNat_Int, Int.reduceEq, Int.reduceNe, Int.reduceLT, Int.reduceLE]
    exact hK H hR hkv
  obtain ⟨s', hs'⟩ : ∃ s', 5 - st = s' + 1 := ⟨4 - st, by omega⟩
  rw [hs', pIns_succ] at hP
  have hrng := scanSorted_rng (lt := lt) (d := dk) (b := b) (b - i) i (Nat.le_refl _) hib
  generalize hq : scanSorted lt dk b i = q at *
  try simp (disch := first | omega | (simp only [PL]; omega)) only [PS, P1, P2, P3, P4, P5, P6, P7, P8, PA, PB, PC, Nat.reduceAdd, Nat.reduceSub, Nat.reduceMul, Nat.reduceLeDiff, Nat.reduceEqDiff, Nat.succ_ne_self, reduceCtorEq, Int.reduceToNat, Int.cast_ofNat_Int, Int.reduceEq, Int.reduceNe, Int.reduceLT, Int.reduceLE]
  refine i_meet_blk (fun env H2 => Heap.le H H2 ∧ env = [some (.agg #[.func (.func fl) #[] cl, .func (.func fs) #[] cs]), some (.int .i64 a), some (.int .i64 b), some (.agg #[.func (.func fl) #[] cl, .func (.func fs) #[] cs]), none, some (.int .i64 (q : Nat)), some (.int .i64 (st : Nat)), none, none, none, none, none, none, none, none, none, none, none, none, none, none, none, none]) ?_ ?_
  rotate_left
  · refine i_loop (fun x : Nat => [some (.agg #[.func (.func fl) #[] cl, .func (.func fs) #[] cs]), some (.int .i64 a), some (.int .i64 b), some (.agg #[.func (.func fl) #[] cl, .func (.func fs) #[] cs]), none, some (.int .i64 (x : Nat)), some (.int .i64 (st : Nat)), none, none, none, none, none, none, none, none, none, none, none, none, none, none, none, none])
      (fun x H2 => i ≤ x ∧ x ≤ b ∧ Heap.le H H2 ∧ scanSorted lt dk b x = q) (fun x => b - x) i (by try simp only [Pe, and_true, true_and, and_self]) ⟨Nat.le_refl _, hib, Heap.le.refl H, hq⟩ ?_
    rintro x H2 ⟨hx1, hx2, hle, hxq⟩
    have hwx : IntKind.i64.wrap ((x : Int) + 1) = ((x + 1 : Nat) : Int) := by rw [w64 (by omega) (by omega)]; omega
    have hwx1 : IntKind.i64.wrap ((x : Int) - 1) = ((x - 1 : Nat) : Int) := by rw [w64 (by omega) (by omega)]; omega
    by_cases hxb : x < b
    rotate_left
    · have hxb' : ((x : Int) < (b : Int)) = False := by rw [eq_iff_iff]; simp; omega
      rw [scanSorted_stop _ _ _ _ (.inl hxb)] at hxq
      subst hxq
      try simp (disch := first | omega | (simp only [PL]; omega)) only [PS, P1, P2, P3, P4, P5, P6, P7, P8, PA, PB, PC, Nat.reduceAdd, Nat.reduceSub, Nat.reduceMul, Nat.reduceLeDiff, Nat.reduceEqDiff, Nat.succ_ne_self, reduceCtorEq, Int.reduceToNat, Int.cast_ofNat_Int, Int.reduceEq, Int.reduceNe, Int.reduceLT, Int.reduceLE, hxb']
      exact k_meet _ (by try simp only [Pe, and_true, true_and, and_self]) ⟨hle, rfl⟩
    have hxb' : ((x : Int) < (b : Int)) = True := by rw [eq_iff_iff]; simp; omega
    try simp (disch := first | omega | (simp only [PL]; omega)) only [PS, P1, P2, P3, P4, P5, P6, P7, P8, PA, PB, PC, Nat.reduceAdd, Nat.reduceSub, Nat.reduceMul, Nat.reduceLeDiff, Nat.reduceEqDiff, Nat.succ_ne_self, reduceCtorEq, Int.reduceToNat, Int.cast_ofNat_Int, Int.reduceEq, Int.reduceNe, Int.reduceLT, Int.reduceLE, hxb', hwx1]
    refine hS.less H2 dk x (x - 1) _ hsk (hR.le hle) (by omega) (by omega) fun H3 hle3 => ?_
    cases hl : lt dk[x]! dk[x - 1]! with
    | true =>
      rw [scanSorted_stop _ _ _ _ (.inr hl)] at hxq
      subst hxq
      try simp (disch := first | omega | (simp only [PL]; omega)) only [PS, P1, P2, P3, P4, P5, P6, P7, P8, PA, PB, PC, Nat.reduceAdd, Nat.reduceSub, Nat.reduceMul, Nat.reduceLeDiff, Nat.reduceEqDiff, Nat.succ_ne_self, reduceCtorEq, Int.reduceToNat, Int.cast_ofNat_Int, Int.reduceEq, Int.reduceNe, Int.reduceLT, Int.reduceLE]
      exact k_meet _ (by try simp only [Pe, and_true, true_and, and_self]) ⟨hle.trans hle3, rfl⟩
    | false =>
      rw [scanSorted_go _ _ _ _ hxb hl] at hxq
      try simp (disch := first | omega | (simp only [PL]; omega)) only [PS, P1, P2, P3, P4, P5, P6, P7, P8, PA, PB, PC, Nat.reduceAdd, Nat.reduceSub, Nat.reduceMul, Nat.reduceLeDiff, Nat.reduceEqDiff, Nat.succ_ne_self, reduceCtorEq, Int.reduceToNat, Int.cast_ofNat_Int, Int.reduceEq, Int.reduceNe, Int.reduceLT, Int.reduceLE, hwx]
      exact k_loop (x + 1) (by omega) (by try simp only [Pe, and_true, true_and, and_self]) ⟨by omega, by omega, hle.trans hle3, hxq⟩
  rintro env H2 ⟨hle2, rfl⟩
  have hR2 := hR.le hle2
  have hkv2 := hkv.trans (kv.of_le hle2)
  try simp (disch := first | omega | (simp only [PL]; omega)) only [PS, P1, P2, P3, P4, P5, P6, P7, P8, PA, PB, PC, Nat.reduceAdd, Nat.reduceSub, Nat.reduceMul, Nat.reduceLeDiff, Nat.reduceEqDiff, Nat.succ_ne_self, reduceCtorEq, Int.reduceToNat, Int.cast_ofNat_Int, Int.reduceEq, Int.reduceNe, Int.reduceLT, Int.reduceLE]
  refine i_cond (fun c1 => ?_) (fun c1 => ?_)
  · rw [if_pos (by omega)] at hP
    rw [← hP] at hK
    try simp (disch := first | omega | (simp only [PL]; omega)) only [PS, P1, P2, P3, P4, P5, P6, P7, P8, PA, PB, PC, Nat.reduceAdd, Nat.reduceSub, Nat.reduceMul, Nat.reduceLeDiff, Nat.reduceEqDiff, Nat.succ_ne_self, reduceCtorEq, Int.reduceToNat, Int.cast_ofNat_Int, Int.reduceEq, Int.reduceNe, Int.reduceLT, Int.reduceLE]
    exact hK H2 hR2 hkv2
  rw [if_neg (by omega)] at hP
  try simp (disch := first | omega | (simp only [PL]; omega)) only [PS, P1, P2, P3, P4, P5, P6, P7, P8, PA, PB, PC, Nat.reduceAdd, Nat.reduceSub, Nat.reduceMul, Nat.reduceLeDiff, Nat.reduceEqDiff, Nat.succ_ne_self, reduceCtorEq, Int.reduceToNat, Int.cast_ofNat_Int, Int.reduceEq, Int.reduceNe, Int.reduceLT, Int.reduceLE, hwba]
  refine i_cond (fun c3 => ?_) (fun c3 => ?_)
  · rw [if_pos (by omega)] at hP
    rw [← hP] at hK
    try simp (disch := first | omega | (simp only [PL]; omega)) only [PS, P1, P2, P3, P4, P5, P6, P7, P8, PA, PB, PC, Nat.reduceAdd, Nat.reduceSub, Nat.reduceMul, Nat.reduceLeDiff, Nat.reduceEqDiff, Nat.succ_ne_self, reduceCtorEq, Int.reduceToNat, Int.cast_ofNat_Int, Int.reduceEq, Int.reduceNe, Int.reduceLT, Int.reduceLE]
    exact hK H2 hR2 hkv2
  rw [if_neg (by omega)] at hP
  have hq1 : a < q := by omega
  have hqb : q < b := by omega
  have hwq1 : IntKind.i64.wrap ((q : Int) - 1) = ((q - 1 : Nat) : Int) := by rw [w64 (by omega) (by omega)]; omega
  have hwq2 : IntKind.i64.wrap ((q : Int) + 1) = ((q + 1 : Nat) : Int) := by rw [w64 (by omega) (by omega)]; omega
  have hwqa : IntKind.i64.wrap ((q : Int) - a) = ((q - a : Nat) : Int) := by rw [w64 (by omega) (by omega)]; omega
  have hwbq : IntKind.i64.wrap ((b : Int) - q) = ((b - q : Nat) : Int) := by rw [w64 (by omega) (by omega)]; omega
  try simp (disch := first | omega | (simp only [PL]; omega)) only [PS, P1, P2, P3, P4, P5, P6, P7, P8, PA, PB, PC, Nat.reduceAdd, Nat.reduceSub, Nat.reduceMul, Nat.reduceLeDiff, Nat.reduceEqDiff, Nat.succ_ne_self, reduceCtorEq, Int.reduceToNat, Int.cast_ofNat_Int, Int.reduceEq, Int.reduceNe, Int.reduceLT, Int.reduceLE, hwq1]
  refine hS.swap H2 dk q (q - 1) _ hsk hR2 (by omega) (by omega) fun H3 hR3 hk3 => ?_
  have hkv3 := hkv2.trans hk3
  have hsk3 : (swp dk q (q - 1)).size = d.size := by rw [size_swp]; exact hsk
  generalize swp dk q (q - 1) = d3 at *
  clear hR hR2 hkv hkv2 hk3 hle2 hsk
  try simp (disch := first | omega | (simp only [PL]; omega)) only [PS, P1, P2, P3, P4, P5, P6, P7, P8, PA, PB, PC, Nat.reduceAdd, Nat.reduceSub, Nat.reduceMul, Nat.reduceLeDiff, Nat.reduceEqDiff, Nat.succ_ne_self, reduceCtorEq, Int.reduceToNat, Int.cast_ofNat_Int, Int.reduceEq, Int.reduceNe, Int.reduceLT, Int.reduceLE, hwqa]
  refine i_meet_cond (fun env H => ∃ d4, d4 = piDown lt a q d3 ∧ d4.size = d.size ∧ Rw F H v d4 ∧ kv v h H ∧ env = [some (.agg #[.func (.func fl) #[] cl, .func (.func fs) #[] cs]), some (.int .i64 a), some (.int .i64 b), some (.agg #[.func (.func fl) #[] cl, .func (.func fs) #[] cs]), none, some (.int .i64 (q : Nat)), some (.int .i64 (st : Nat)), none, none, none, none, none, none, none, none, none, none, none, none, none, none, none, none]) ?_ ?_
  rotate_left
  · unfold piDown
    refine i_cond (fun c4 => ?_) (fun c4 => ?_)
    rotate_left
    · try simp (disch := first | omega | (simp only [PL]; omega)) only [PS, P1, P2, P3, P4, P5, P6, P7, P8, PA, PB, PC, Nat.reduceAdd, Nat.reduceSub, Nat.reduceMul, Nat.reduceLeDiff, Nat.reduceEqDiff, Nat.succ_ne_self, reduceCtorEq, Int.reduceToNat, Int.cast_ofNat_Int, Int.reduceEq, Int.reduceNe, Int.reduceLT, Int.reduceLE]
      exact k_meet _ (by try simp only [Pe, and_true, true_and, and_self]) ⟨d3, by rw [if_neg (by omega)], hsk3, hR3, hkv3, rfl⟩
    rw [if_pos (by omega)]
    try simp (disch := first | omega | (simp only [PL]; omega)) only [PS, P1, P2, P3, P4, P5, P6, P7, P8, PA, PB, PC, Nat.reduceAdd, Nat.reduceSub, Nat.reduceMul, Nat.reduceLeDiff, Nat.reduceEqDiff, Nat.succ_ne_self, reduceCtorEq, Int.reduceToNat, Int.cast_ofNat_Int, Int.reduceEq, Int.reduceNe, Int.reduceLT, Int.reduceLE, hwq1]
    refine i_loop (fun x : Nat × Array Si => [some (.agg #[.func (.func fl) #[] cl, .func (.func fs) #[] cs]), some (.int .i64 a), some (.int .i64 b), some (.agg #[.func (.func fl) #[] cl, .func (.func fs) #[] cs]), none, some (.int .i64 (q : Nat)), some (.int .i64 (st : Nat)), some (.int .i64 (x.1 : Nat)), none, none, none, none, none, none, none, none, none, none, none, none, none, none, none])
      (fun x H => x.1 ≤ q - 1 ∧ x.2.size = d.size ∧ Rw F H v x.2 ∧ kv v h H ∧ shiftDown lt x.1 x.2 = shiftDown lt (q - 1) d3) (fun x => x.1) (q - 1, d3) (by dsimp only; try simp only [Pe, and_true, true_and, and_self]) ⟨Nat.le_refl _, hsk3, hR3, hkv3, rfl⟩ ?_
    rintro ⟨x, dx⟩ H5 ⟨hx, hsx, hRx, hkx, hPx⟩
    dsimp only at hx hsx hRx hPx ⊢
    have hwx1 : x ≠ 0 → IntKind.i64.wrap ((x : Int) - 1) = ((x - 1 : Nat) : Int) := fun h0 => by rw [w64 (by omega) (by omega)]; omega
    try simp (disch := first | omega | (simp only [PL]; omega)) only [PS, P1, P2, P3, P4, P5, P6, P7, P8, PA, PB, PC, Nat.reduceAdd, Nat.reduceSub, Nat.reduceMul, Nat.reduceLeDiff, Nat.reduceEqDiff, Nat.succ_ne_self, reduceCtorEq, Int.reduceToNat, Int.cast_ofNat_Int, Int.reduceEq, Int.reduceNe, Int.reduceLT, Int.reduceLE]
    refine i_cond (fun c5 => ?_) (fun c5 => ?_)
    rotate_left
    · try simp (disch := first | omega | (simp only [PL]; omega)) only [PS, P1, P2, P3, P4, P5, P6, P7, P8, PA, PB, PC, Nat.reduceAdd, Nat.reduceSub, Nat.reduceMul, Nat.reduceLeDiff, Nat.reduceEqDiff, Nat.succ_ne_self, reduceCtorEq, Int.reduceToNat, Int.cast_ofNat_Int, Int.reduceEq, Int.reduceNe, Int.reduceLT, Int.reduceLE]
      refine k_meet _ (by try simp only [Pe, and_true, true_and, and_self]) ⟨dx, ?_, hsx, hRx, hkx, rfl⟩
      rw [← hPx, shiftDown_stop _ _ _ (.inl (by omega))]
    have hw0 := hwx1 (by omega)
    try simp (disch := first | omega | (simp only [PL]; omega)) only [PS, P1, P2, P3, P4, P5, P6, P7, P8, PA, PB, PC, Nat.reduceAdd, Nat.reduceSub, Nat.reduceMul, Nat.reduceLeDiff, Nat.reduceEqDiff, Nat.succ_ne_self, reduceCtorEq, Int.reduceToNat, Int.cast_ofNat_Int, Int.reduceEq, Int.reduceNe, Int.reduceLT, Int.reduceLE, hw0]
    refine hS.less H5 dx x (x - 1) _ hsx hRx (by omega) (by omega) fun H6 hle6 => ?_
    cases hl : lt dx[x]! dx[x - 1]! with
    | false =>
      try simp (disch := first | omega | (simp only [PL]; omega)) only [PS, P1, P2, P3, P4, P5, P6, P7, P8, PA, PB, PC, Nat.reduceAdd, Nat.reduceSub, Nat.reduceMul, Nat.reduceLeDiff, Nat.reduceEqDiff, Nat.succ_ne_self, reduceCtorEq, Int.reduceToNat, Int.cast_ofNat_Int, Int.reduceEq, Int.reduceNe, Int.reduceLT, Int.reduceLE]
      refine k_meet _ (by try simp only [Pe, and_true, true_and, and_self]) ⟨dx, ?_, hsx, hRx.le hle6, hkx.trans (kv.of_le hle6), rfl⟩
      rw [← hPx, shiftDown_stop _ _ _ (.inr hl)]
    | true =>
      try simp (disch := first | omega | (simp only [PL]; omega)) only [PS, P1, P2, P3, P4, P5, P6, P7, P8, PA, PB, PC, Nat.reduceAdd, Nat.reduceSub, Nat.reduceMul, Nat.reduceLeDiff, Nat.reduceEqDiff, Nat.succ_ne_self, reduceCtorEq, Int.reduceToNat, Int.cast_ofNat_Int, Int.reduceEq, Int.reduceNe, Int.reduceLT, Int.reduceLE, hw0]
      refine hS.swap H6 dx x (x - 1) _ hsx (hRx.le hle6) (by omega) (by omega) fun H7 hR7 hk7 => ?_
      try simp (disch := first | omega | (simp only [PL]; omega)) only [PS, P1, P2, P3, P4, P5, P6, P7, P8, PA, PB, PC, Nat.reduceAdd, Nat.reduceSub, Nat.reduceMul, Nat.reduceLeDiff, Nat.reduceEqDiff, Nat.succ_ne_self, reduceCtorEq, Int.reduceToNat, Int.cast_ofNat_Int, Int.reduceEq, Int.reduceNe, Int.reduceLT, Int.reduceLE, hw0]
      exact k_loop (x - 1, swp dx x (x - 1)) (by dsimp only; omega) (by dsimp only; try simp only [Pe, and_true, true_and, and_self]) ⟨by dsimp only; omega, by dsimp only; rw [size_swp]; exact hsx, hR7, (hkx.trans (kv.of_le hle6)).trans hk7, by rw [← hPx]; dsimp only; rw [shiftDown_go lt x dx (by omega) hl]⟩
  clear hR3 hkv3 hsk3
  rintro env H4 ⟨d4, hd4, hs4, hR4, hkv4, rfl⟩
  rw [← hd4] at hP
  clear hd4
  try simp (disch := first | omega | (simp only [PL]; omega)) only [PS, P1, P2, P3, P4, P5, P6, P7, P8, PA, PB, PC, Nat.reduceAdd, Nat.reduceSub, Nat.reduceMul, Nat.reduceLeDiff, Nat.reduceEqDiff, Nat.succ_ne_self, reduceCtorEq, Int.reduceToNat, Int.cast_ofNat_Int, Int.reduceEq, Int.reduceNe, Int.reduceLT, Int.reduceLE, hwbq]
  refine i_meet_cond_blk (fun env H => ∃ d5, d5 = piUp lt b q d4 ∧ d5.size = d.size ∧ Rw F H v d5 ∧ kv v h H ∧ env = [some (.agg #[.func (.func fl) #[] cl, .func (.func fs) #[] cs]), some (.int .i64 a), some (.int .i64 b), some (.agg #[.func (.func fl) #[] cl, .func (.func fs) #[] cs]), none, some (.int .i64 (q : Nat)), some (.int .i64 (st : Nat)), none, none, none, none, none, none, none, none, none, none, none, none, none, none, none, none]) ?_ ?_
  rotate_left
  · unfold piUp
    refine i_cond (fun c4 => ?_) (fun c4 => ?_)
    rotate_left
    · try simp (disch := first | omega | (simp only [PL]; omega)) only [PS, P1, P2, P3, P4, P5, P6, P7, P8, PA, PB, PC, Nat.reduceAdd, Nat.reduceSub, Nat.reduceMul, Nat.reduceLeDiff, Nat.reduceEqDiff, Nat.succ_ne_self, reduceCtorEq, Int.reduceToNat, Int.cast_ofNat_Int, Int.reduceEq, Int.reduceNe, Int.reduceLT, Int.reduceLE]
      exact k_meet _ (by try simp only [Pe, and_true, true_and, and_self]) ⟨d4, by rw [if_neg (by omega)], hs4, hR4, hkv4, rfl⟩
    rw [if_pos (by omega)]
    try simp (disch := first | omega | (simp only [PL]; omega)) only [PS, P1, P2, P3, P4, P5, P6, P7, P8, PA, PB, PC, Nat.reduceAdd, Nat.reduceSub, Nat.reduceMul, Nat.reduceLeDiff, Nat.reduceEqDiff, Nat.succ_ne_self, reduceCtorEq, Int.reduceToNat, Int.cast_ofNat_Int, Int.reduceEq, Int.reduceNe, Int.reduceLT, Int.reduceLE, hwq2]
    refine i_loop (fun x : Nat × Array Si => [some (.agg #[.func (.func fl) #[] cl, .func (.func fs) #[] cs]), some (.int .i64 a), some (.int .i64 b), some (.agg #[.func (.func fl) #[] cl, .func (.func fs) #[] cs]), none, some (.int .i64 (q : Nat)), some (.int .i64 (st : Nat)), none, some (.int .i64 (x.1 : Nat)), none, none, none, none, none, none, none, none, none, none, none, none, none, none])
      (fun x H => q + 1 ≤ x.1 ∧ x.1 ≤ b ∧ x.2.size = d.size ∧ Rw F H v x.2 ∧ kv v h H ∧ shiftUp lt b x.1 x.2 = shiftUp lt b (q + 1) d4) (fun x => b - x.1) (q + 1, d4) (by dsimp only; try simp only [Pe, and_true, true_and, and_self]) ⟨Nat.le_refl _, by dsimp only; omega, hs4, hR4, hkv4, rfl⟩ ?_
    rintro ⟨x, dx⟩ H5 ⟨hx0, hx, hsx, hRx, hkx, hPx⟩
    dsimp only at hx0 hx hsx hRx hPx ⊢
    have hw0 : IntKind.i64.wrap ((x : Int) - 1) = ((x - 1 : Nat) : Int) := by rw [w64 (by omega) (by omega)]; omega
    have hw9 : IntKind.i64.wrap ((x : Int) + 1) = ((x + 1 : Nat) : Int) := by rw [w64 (by omega) (by omega)]; omega
    try simp (disch := first | omega | (simp only [PL]; omega)) only [PS, P1, P2, P3, P4, P5, P6, P7, P8, PA, PB, PC, Nat.reduceAdd, Nat.reduceSub, Nat.reduceMul, Nat.reduceLeDiff, Nat.reduceEqDiff, Nat.succ_ne_self, reduceCtorEq, Int.reduceToNat, Int.cast_ofNat_Int, Int.reduceEq, Int.reduceNe, Int.reduceLT, Int.reduceLE]
    refine i_cond (fun c5 => ?_) (fun c5 => ?_)
    rotate_left
    · try simp (disch := first | omega | (simp only [PL]; omega)) only [PS, P1, P2, P3, P4, P5, P6, P7, P8, PA, PB, PC, Nat.reduceAdd, Nat.reduceSub, Nat.reduceMul, Nat.reduceLeDiff, Nat.reduceEqDiff, Nat.succ_ne_self, reduceCtorEq, Int.reduceToNat, Int.cast_ofNat_Int, Int.reduceEq, Int.reduceNe, Int.reduceLT, Int.reduceLE]
      refine k_meet _ (by try simp only [Pe, and_true, true_and, and_self]) ⟨dx, ?_, hsx, hRx, hkx, rfl⟩
      rw [← hPx, shiftUp_stop _ _ _ _ (.inl (by omega))]
    try simp (disch := first | omega | (simp only [PL]; omega)) only [PS, P1, P2, P3, P4, P5, P6, P7, P8, PA, PB, PC, Nat.reduceAdd, Nat.reduceSub, Nat.reduceMul, Nat.reduceLeDiff, Nat.reduceEqDiff, Nat.succ_ne_self, reduceCtorEq, Int.reduceToNat, Int.cast_ofNat_Int, Int.reduceEq, Int.reduceNe, Int.reduceLT, Int.reduceLE, hw0]
    refine hS.less H5 dx x (x - 1) _ hsx hRx (by omega) (by omega) fun H6 hle6 => ?_
    cases hl : lt dx[x]! dx[x - 1]! with
    | false =>
      try simp (disch := first | omega | (simp only [PL]; omega)) only [PS, P1, P2, P3, P4, P5, P6, P7, P8, PA, PB, PC, Nat.reduceAdd, Nat.reduceSub, Nat.reduceMul, Nat.reduceLeDiff, Nat.reduceEqDiff, Nat.succ_ne_self, reduceCtorEq, Int.reduceToNat, Int.cast_ofNat_Int, Int.reduceEq, Int.reduceNe, Int.reduceLT, Int.reduceLE]
      refine k_meet _ (by try simp only [Pe, and_true, true_and, and_self]) ⟨dx, ?_, hsx, hRx.le hle6, hkx.trans (kv.of_le hle6), rfl⟩
      rw [← hPx, shiftUp_stop _ _ _ _ (.inr hl)]
    | true =>
      try simp (disch := first | omega | (simp only [PL]; omega)) only [PS, P1, P2, P3, P4, P5, P6, P7, P8, PA, PB, PC, Nat.reduceAdd, Nat.reduceSub, Nat.reduceMul, Nat.reduceLeDiff, Nat.reduceEqDiff, Nat.succ_ne_self, reduceCtorEq, Int.reduceToNat, Int.cast_ofNat_Int, Int.reduceEq, Int.reduceNe, Int.reduceLT, Int.reduceLE, hw0]
      refine hS.swap H6 dx x (x - 1) _ hsx (hRx.le hle6) (by omega) (by omega) fun H7 hR7 hk7 => ?_
      try simp (disch := first | omega | (simp only [PL]; omega)) only [PS, P1, P2, P3, P4, P5, P6, P7, P8, PA, PB, PC, Nat.reduceAdd, Nat.reduceSub, Nat.reduceMul, Nat.reduceLeDiff, Nat.reduceEqDiff, Nat.succ_ne_self, reduceCtorEq, Int.reduceToNat, Int.cast_ofNat_Int, Int.reduceEq, Int.reduceNe, Int.reduceLT, Int.reduceLE, hw9]
      exact k_loop (x + 1, swp dx x (x - 1)) (by dsimp only; omega) (by dsimp only; try simp only [Pe, and_true, true_and, and_self]) ⟨by dsimp only; omega, by dsimp only; omega, by dsimp only; rw [size_swp]; exact hsx, hR7, (hkx.trans (kv.of_le hle6)).trans hk7, by rw [← hPx]; dsimp only; rw [shiftUp_go lt b x dx (by omega) hl]⟩
  clear hR4 hkv4 hs4
  rintro env H5 ⟨d5, hd5, hs5, hR5, hkv5, rfl⟩
  rw [← hd5] at hP
  clear hd5
  try simp (disch := first | omega | (simp only [PL]; omega)) only [PS, P1, P2, P3, P4, P5, P6, P7, P8, PA, PB, PC, Nat.reduceAdd, Nat.reduceSub, Nat.reduceMul, Nat.reduceLeDiff, Nat.reduceEqDiff, Nat.succ_ne_self, reduceCtorEq, Int.reduceToNat, Int.cast_ofNat_Int, Int.reduceEq, Int.reduceNe, Int.reduceLT, Int.reduceLE, hws]
  refine k_loop (st + 1, q, d5) (by dsimp only; omega) (by dsimp only; try simp only [Pe, and_true, true_and, and_self]) ⟨by dsimp only; omega, by dsimp only; omega, by dsimp only; omega, hs5, hR5, hkv5, ?_⟩
  dsimp only
  rw [show 5 - (st + 1) = s' by omega]; exact hP
end Go.Cw
namespace Go.Cw
open Go Go.Sort Go.Proofs

theorem scanUp_rng {p : Si → Bool} {d : Array Si} {j : Nat} : ∀ (n i : Nat), j + 1 - i ≤ n → i ≤ scanUp p d j i ∧ (scanUp p d j i ≤ j + 1 ∨ scanUp p d j i = i) := by
  intro n
  induction n with
  | zero =>
    intro i h
    rw [scanUp_end _ _ _ _ (.inl (by omega))]; omega
  | succ n ih =>
    intro i h
    by_cases hc : i ≤ j
    · cases hl : p d[i]! with
      | false => rw [scanUp_end _ _ _ _ (.inr hl)]; omega
      | true =>
        rw [scanUp_go _ _ _ _ hc hl]
        have := ih (i + 1) (by omega)
        omega
    · rw [scanUp_end _ _ _ _ (.inl hc)]; omega
theorem scanDown_rng {p : Si → Bool} {d : Array Si} {i : Nat} : ∀ (n j : Nat), j ≤ n → scanDown p d i j ≤ j ∧ (i ≤ scanDown p d i j + 1 ∨ scanDown p d i j = j) := by
  intro n
  induction n with
  | zero =>
    intro j h
    obtain rfl : j = 0 := by omega
    rw [scanDown]; omega
  | succ n ih =>
    intro j h
    by_cases hc : i ≤ j ∧ 0 < j
    · cases hl : p d[j]! with
      | false => rw [scanDown_end _ _ _ _ (.inr hl)]; omega
      | true =>
        rw [scanDown_go _ _ _ _ hc.1 hc.2 hl]
        have := ih (j - 1) (by omega)
        omega
    · by_cases h0 : j = 0
      · subst h0; rw [scanDown]; omega
      · rw [scanDown_end _ _ _ _ (.inl (by omega))]; omega

def S104 (N : Num) (Γ : Ctx) : Spec := fun args h K => ∃ F v fl fs cl cs lt d, ∃ a b pivot : Nat, args = [.agg #[.func (.func fl) #[] cl, .func (.func fs) #[] cs], .int .i64 a, .int .i64 b, .int .i64 pivot] ∧ So N Γ F v fl fs cl cs lt d.size ∧ Rw F h v d ∧ a < b ∧ b ≤ d.size ∧ pivot < d.size ∧
  ∀ h', Rw F h' v (partitionEqual lt d a b pivot).2 → kv v h h' → K (.int .i64 ((partitionEqual lt d a b pivot).1 : Nat)) h'
theorem F104_ok {N : Num} {Γ : Ctx} [GoodC Γ] : Sat (S104 N Γ) (SF N Γ F104) := by
  rintro _ h K ⟨F, v, fl, fs, cl, cs, lt, d, a, b, pivot, rfl, hS, hd, hab, hb, hpv, hK⟩
  have hsz := hS.size
  unfold partitionEqual at hK
  refine i_fun rfl ?_
  simp only [F104, env0, List.map, List.length, List.replicate, List.cons_append, List.nil_append, Nat.reduceSub, Nat.reduceAdd]
  have hwa : IntKind.i64.wrap ((a : Int) + 1) = ((a + 1 : Nat) : Int) := by rw [w64 (by omega) (by omega)]; omega
  have hwb : IntKind.i64.wrap ((b : Int) - 1) = ((b - 1 : Nat) : Int) := by rw [w64 (by omega) (by omega)]; omega
  try simp (disch := first | omega | (simp only [PL]; omega)) only [PS, P1, P2, P3, P4, P5, P6, P7, P8, PA, PB, PC, Nat.reduceAdd, Nat.reduceSub, Nat.reduceMul, Nat.reduceLeDiff, Nat.reduceEqDiff, Nat.succ_ne_self, reduceCtorEq, Int.reduceToNat, Int.cast_ofNat_Int, Int.reduceEq, Int.reduceNe, Int.reduceLT, Int.reduceLE]
  refine hS.swap h d a pivot _ rfl hd (by omega) (by omega) fun h1 hR1 hk1 => ?_
  have hs1 : (swp d a pivot).size = d.size := size_swp _ _ _
  generalize swp d a pivot = d1 at *
  try simp (disch := first | omega | (simp only [PL]; omega)) only [PS, P1, P2, P3, P4, P5, P6, P7, P8, PA, PB, PC, Nat.reduceAdd, Nat.reduceSub, Nat.reduceMul, Nat.reduceLeDiff, Nat.reduceEqDiff, Nat.succ_ne_self, reduceCtorEq, Int.reduceToNat, Int.cast_ofNat_Int, Int.reduceEq, Int.reduceNe, Int.reduceLT, Int.reduceLE, hwa, hwb]
  refine i_loop (fun x : Nat × Nat × Array Si => [some (.agg #[.func (.func fl) #[] cl, .func (.func fs) #[] cs]), some (.int .i64 a), some (.int .i64 b), some (.int .i64 pivot), some (.agg #[.func (.func fl) #[] cl, .func (.func fs) #[] cs]), none, some (.int .i64 (x.1 : Nat)), some (.int .i64 (x.2.1 : Nat)), none, none, none, none, none, none, none])
    (fun x H => a < x.1 ∧ x.1 ≤ x.2.1 + 2 ∧ x.2.1 < b ∧ x.2.2.size = d.size ∧ Rw F H v x.2.2 ∧ kv v h H ∧ partEqLoop lt a x.1 x.2.1 x.2.2 = partEqLoop lt a (a + 1) (b - 1) d1) (fun x => x.2.1 + 1 - x.1) (a + 1, b - 1, d1) (by dsimp only; try simp only [Pe, and_true, true_and, and_self]) ⟨by dsimp only; omega, by dsimp only; omega, by dsimp only; omega, hs1, hR1, hk1, rfl⟩ ?_
  rintro ⟨i, j, dk⟩ H ⟨hai, hij, hjb, hsk, hR, hkv, hP⟩
  dsimp only at hai hij hjb hsk hR hP ⊢
  rw [partEqLoop_eq] at hP
  have rU := scanUp_rng (p := fun x => !lt dk[a]! x) (d := dk) (j := j) (j + 1 - i) i (Nat.le_refl _)
  generalize hi2 : scanUp (fun x => !lt dk[a]! x) dk j i = i2 at *
  have rD := scanDown_rng (p := fun x => lt dk[a]! x) (d := dk) (i := i2) j j (Nat.le_refl _)
  generalize hj2 : scanDown (fun x => lt dk[a]! x) dk i2 j = j2 at *
  try simp (disch := first | omega | (simp only [PL]; omega)) only [PS, P1, P2, P3, P4, P5, P6, P7, P8, PA, PB, PC, Nat.reduceAdd, Nat.reduceSub, Nat.reduceMul, Nat.reduceLeDiff, Nat.reduceEqDiff, Nat.succ_ne_self, reduceCtorEq, Int.reduceToNat, Int.cast_ofNat_Int, Int.reduceEq, Int.reduceNe, Int.reduceLT, Int.reduceLE]
  refine i_meet_blk (fun env H2 => Heap.le H H2 ∧ env = [some (.agg #[.func (.func fl) #[] cl, .func (.func fs) #[] cs]), some (.int .i64 a), some (.int .i64 b), some (.int .i64 pivot), some (.agg #[.func (.func fl) #[] cl, .func (.func fs) #[] cs]), none, some (.int .i64 (i2 : Nat)), some (.int .i64 (j : Nat)), none, none, none, none, none, none, none]) ?_ ?_
  rotate_left
  · refine i_loop (fun x : Nat => [some (.agg #[.func (.func fl) #[] cl, .func (.func fs) #[] cs]), some (.int .i64 a), some (.int .i64 b), some (.int .i64 pivot), some (.agg #[.func (.func fl) #[] cl, .func (.func fs) #[] cs]), none, some (.int .i64 (x : Nat)), some (.int .i64 (j : Nat)), none, none, none, none, none, none, none])
        (fun x H2 => i ≤ x ∧ (x ≤ j + 1 ∨ x = i) ∧ Heap.le H H2 ∧ scanUp (fun x => !lt dk[a]! x) dk j x = i2) (fun x => j + 1 - x) i (by try simp only [Pe, and_true, true_and, and_self]) ⟨Nat.le_refl _, by omega, Heap.le.refl H, hi2⟩ ?_
    rintro x H2 ⟨hx1, hx2, hle, hxq⟩
    have hwx : IntKind.i64.wrap ((x : Int) + 1) = ((x + 1 : Nat) : Int) := by rw [w64 (by omega) (by omega)]; omega
    by_cases hxj : x ≤ j
    rotate_left
    · have hxj' : ((x : Int) ≤ (j : Nat)) = False := by rw [eq_iff_iff]; simp; omega
      rw [scanUp_end _ _ _ _ (.inl hxj)] at hxq
      subst hxq
      try simp (disch := first | omega | (simp only [PL]; omega)) only [PS, P1, P2, P3, P4, P5, P6, P7, P8, PA, PB, PC, Nat.reduceAdd, Nat.reduceSub, Nat.reduceMul, Nat.reduceLeDiff, Nat.reduceEqDiff, Nat.succ_ne_self, reduceCtorEq, Int.reduceToNat, Int.cast_ofNat_Int, Int.reduceEq, Int.reduceNe, Int.reduceLT, Int.reduceLE, hxj']
      exact k_meet _ (by try simp only [Pe, and_true, true_and, and_self]) ⟨hle, rfl⟩
    have hxj' : ((x : Int) ≤ (j : Nat)) = True := by rw [eq_iff_iff]; simp; omega
    try simp (disch := first | omega | (simp only [PL]; omega)) only [PS, P1, P2, P3, P4, P5, P6, P7, P8, PA, PB, PC, Nat.reduceAdd, Nat.reduceSub, Nat.reduceMul, Nat.reduceLeDiff, Nat.reduceEqDiff, Nat.succ_ne_self, reduceCtorEq, Int.reduceToNat, Int.cast_ofNat_Int, Int.reduceEq, Int.reduceNe, Int.reduceLT, Int.reduceLE, hxj']
    refine hS.less H2 dk a x _ hsk (hR.le hle) (by omega) (by omega) fun H3 hle3 => ?_
    cases hl : lt dk[a]! dk[x]! with
    | false =>
      rw [scanUp_go _ _ _ _ hxj (by simp [hl])] at hxq
      try simp (disch := first | omega | (simp only [PL]; omega)) only [PS, P1, P2, P3, P4, P5, P6, P7, P8, PA, PB, PC, Nat.reduceAdd, Nat.reduceSub, Nat.reduceMul, Nat.reduceLeDiff, Nat.reduceEqDiff, Nat.succ_ne_self, reduceCtorEq, Int.reduceToNat, Int.cast_ofNat_Int, Int.reduceEq, Int.reduceNe, Int.reduceLT, Int.reduceLE, hwx]
      exact k_loop (x + 1) (by omega) (by try simp only [Pe, and_true, true_and, and_self]) ⟨by omega, by omega, hle.trans hle3, hxq⟩
    | true =>
      rw [scanUp_end _ _ _ _ (.inr (by simp [hl]))] at hxq
      subst hxq
      try simp (disch := first | omega | (simp only [PL]; omega)) only [PS, P1, P2, P3, P4, P5, P6, P7, P8, PA, PB, PC, Nat.reduceAdd, Nat.reduceSub, Nat.reduceMul, Nat.reduceLeDiff, Nat.reduceEqDiff, Nat.succ_ne_self, reduceCtorEq, Int.reduceToNat, Int.cast_ofNat_Int, Int.reduceEq, Int.reduceNe, Int.reduceLT, Int.reduceLE]
      exact k_meet _ (by try simp only [Pe, and_true, true_and, and_self]) ⟨hle.trans hle3, rfl⟩
  rintro env H2 ⟨hleU, rfl⟩
  try simp (disch := first | omega | (simp only [PL]; omega)) only [PS, P1, P2, P3, P4, P5, P6, P7, P8, PA, PB, PC, Nat.reduceAdd, Nat.reduceSub, Nat.reduceMul, Nat.reduceLeDiff, Nat.reduceEqDiff, Nat.succ_ne_self, reduceCtorEq, Int.reduceToNat, Int.cast_ofNat_Int, Int.reduceEq, Int.reduceNe, Int.reduceLT, Int.reduceLE]
  refine i_meet_blk (fun env H3 => Heap.le H H3 ∧ env = [some (.agg #[.func (.func fl) #[] cl, .func (.func fs) #[] cs]), some (.int .i64 a), some (.int .i64 b), some (.int .i64 pivot), some (.agg #[.func (.func fl) #[] cl, .func (.func fs) #[] cs]), none, some (.int .i64 (i2 : Nat)), some (.int .i64 (j2 : Nat)), none, none, none, none, none, none, none]) ?_ ?_
  rotate_left
  · refine i_loop (fun y : Nat => [some (.agg #[.func (.func fl) #[] cl, .func (.func fs) #[] cs]), some (.int .i64 a), some (.int .i64 b), some (.int .i64 pivot), some (.agg #[.func (.func fl) #[] cl, .func (.func fs) #[] cs]), none, some (.int .i64 (i2 : Nat)), some (.int .i64 (y : Nat)), none, none, none, none, none, none, none])
        (fun y H3 => (i2 ≤ y + 1 ∨ y = j) ∧ y ≤ j ∧ Heap.le H H3 ∧ scanDown (fun x => lt dk[a]! x) dk i2 y = j2) (fun y => y) j (by try simp only [Pe, and_true, true_and, and_self]) ⟨by omega, Nat.le_refl _, hleU, hj2⟩ ?_
    rintro y H3 ⟨hy1, hy2, hle, hyq⟩
    by_cases hyj : i2 ≤ y
    rotate_left
    · have hyj' : ((i2 : Int) ≤ (y : Int)) = False := by rw [eq_iff_iff]; simp; omega
      rw [scanDown_end _ _ _ _ (.inl hyj)] at hyq
      subst hyq
      try simp (disch := first | omega | (simp only [PL]; omega)) only [PS, P1, P2, P3, P4, P5, P6, P7, P8, PA, PB, PC, Nat.reduceAdd, Nat.reduceSub, Nat.reduceMul, Nat.reduceLeDiff, Nat.reduceEqDiff, Nat.succ_ne_self, reduceCtorEq, Int.reduceToNat, Int.cast_ofNat_Int, Int.reduceEq, Int.reduceNe, Int.reduceLT, Int.reduceLE, hyj']
      exact k_meet _ (by try simp only [Pe, and_true, true_and, and_self]) ⟨hle, rfl⟩
    have hyj' : ((i2 : Int) ≤ (y : Int)) = True := by rw [eq_iff_iff]; simp; omega
    have hwy : IntKind.i64.wrap ((y : Int) - 1) = ((y - 1 : Nat) : Int) := by rw [w64 (by omega) (by omega)]; omega
    try simp (disch := first | omega | (simp only [PL]; omega)) only [PS, P1, P2, P3, P4, P5, P6, P7, P8, PA, PB, PC, Nat.reduceAdd, Nat.reduceSub, Nat.reduceMul, Nat.reduceLeDiff, Nat.reduceEqDiff, Nat.succ_ne_self, reduceCtorEq, Int.reduceToNat, Int.cast_ofNat_Int, Int.reduceEq, Int.reduceNe, Int.reduceLT, Int.reduceLE, hyj']
    refine hS.less H3 dk a y _ hsk (hR.le hle) (by omega) (by omega) fun H4 hle4 => ?_
    cases hl : lt dk[a]! dk[y]! with
    | false =>
      rw [scanDown_end _ _ _ _ (.inr (by simp [hl]))] at hyq
      subst hyq
      try simp (disch := first | omega | (simp only [PL]; omega)) only [PS, P1, P2, P3, P4, P5, P6, P7, P8, PA, PB, PC, Nat.reduceAdd, Nat.reduceSub, Nat.reduceMul, Nat.reduceLeDiff, Nat.reduceEqDiff, Nat.succ_ne_self, reduceCtorEq, Int.reduceToNat, Int.cast_ofNat_Int, Int.reduceEq, Int.reduceNe, Int.reduceLT, Int.reduceLE]
      exact k_meet _ (by try simp only [Pe, and_true, true_and, and_self]) ⟨hle.trans hle4, rfl⟩
    | true =>
      rw [scanDown_go _ _ _ _ hyj (by omega) (by simp [hl])] at hyq
      try simp (disch := first | omega | (simp only [PL]; omega)) only [PS, P1, P2, P3, P4, P5, P6, P7, P8, PA, PB, PC, Nat.reduceAdd, Nat.reduceSub, Nat.reduceMul, Nat.reduceLeDiff, Nat.reduceEqDiff, Nat.succ_ne_self, reduceCtorEq, Int.reduceToNat, Int.cast_ofNat_Int, Int.reduceEq, Int.reduceNe, Int.reduceLT, Int.reduceLE, hwy]
      exact k_loop (y - 1) (by omega) (by try simp only [Pe, and_true, true_and, and_self]) ⟨by omega, by omega, hle.trans hle4, hyq⟩
  rintro env H3 ⟨hleD, rfl⟩
  have hR3 := hR.le hleD
  have hkv3 := hkv.trans (kv.of_le hleD)
  try simp (disch := first | omega | (simp only [PL]; omega)) only [PS, P1, P2, P3, P4, P5, P6, P7, P8, PA, PB, PC, Nat.reduceAdd, Nat.reduceSub, Nat.reduceMul, Nat.reduceLeDiff, Nat.reduceEqDiff, Nat.succ_ne_self, reduceCtorEq, Int.reduceToNat, Int.cast_ofNat_Int, Int.reduceEq, Int.reduceNe, Int.reduceLT, Int.reduceLE]
  refine i_cond (fun c => ?_) (fun c => ?_)
  · rw [if_pos (by omega)] at hP
    rw [← hP] at hK
    try simp (disch := first | omega | (simp only [PL]; omega)) only [PS, P1, P2, P3, P4, P5, P6, P7, P8, PA, PB, PC, Nat.reduceAdd, Nat.reduceSub, Nat.reduceMul, Nat.reduceLeDiff, Nat.reduceEqDiff, Nat.succ_ne_self, reduceCtorEq, Int.reduceToNat, Int.cast_ofNat_Int, Int.reduceEq, Int.reduceNe, Int.reduceLT, Int.reduceLE]
    exact hK H3 hR3 hkv3
  rw [if_neg (by omega)] at hP
  have hw1 : IntKind.i64.wrap ((i2 : Int) + 1) = ((i2 + 1 : Nat) : Int) := by rw [w64 (by omega) (by omega)]; omega
  have hw2 : IntKind.i64.wrap ((j2 : Int) - 1) = ((j2 - 1 : Nat) : Int) := by rw [w64 (by omega) (by omega)]; omega
  try simp (disch := first | omega | (simp only [PL]; omega)) only [PS, P1, P2, P3, P4, P5, P6, P7, P8, PA, PB, PC, Nat.reduceAdd, Nat.reduceSub, Nat.reduceMul, Nat.reduceLeDiff, Nat.reduceEqDiff, Nat.succ_ne_self, reduceCtorEq, Int.reduceToNat, Int.cast_ofNat_Int, Int.reduceEq, Int.reduceNe, Int.reduceLT, Int.reduceLE]
  refine hS.swap H3 dk i2 j2 _ hsk hR3 (by omega) (by omega) fun H5 hR5 hk5 => ?_
  try simp (disch := first | omega | (simp only [PL]; omega)) only [PS, P1, P2, P3, P4, P5, P6, P7, P8, PA, PB, PC, Nat.reduceAdd, Nat.reduceSub, Nat.reduceMul, Nat.reduceLeDiff, Nat.reduceEqDiff, Nat.succ_ne_self, reduceCtorEq, Int.reduceToNat, Int.cast_ofNat_Int, Int.reduceEq, Int.reduceNe, Int.reduceLT, Int.reduceLE, hw1, hw2]
  exact k_loop (i2 + 1, j2 - 1, swp dk i2 j2) (by dsimp only; omega) (by dsimp only; try simp only [Pe, and_true, true_and, and_self]) ⟨by dsimp only; omega, by dsimp only; omega, by dsimp only; omega, by dsimp only; rw [size_swp]; exact hsk, hR5, hkv3.trans hk5, hP⟩

theorem part_eq (lt : Si → Si → Bool) (d : Array Si) (a b pivot : Nat) : partition lt d a b pivot =
    if scanUp (fun x => lt x (swp d a pivot)[a]!) (swp d a pivot) (b - 1) (a + 1) > scanDown (fun x => !lt x (swp d a pivot)[a]!) (swp d a pivot) (scanUp (fun x => lt x (swp d a pivot)[a]!) (swp d a pivot) (b - 1) (a + 1)) (b - 1)
    then (scanDown (fun x => !lt x (swp d a pivot)[a]!) (swp d a pivot) (scanUp (fun x => lt x (swp d a pivot)[a]!) (swp d a pivot) (b - 1) (a + 1)) (b - 1), true, swp (swp d a pivot) (scanDown (fun x => !lt x (swp d a pivot)[a]!) (swp d a pivot) (scanUp (fun x => lt x (swp d a pivot)[a]!) (swp d a pivot) (b - 1) (a + 1)) (b - 1)) a)
    else ((partLoop lt a (scanUp (fun x => lt x (swp d a pivot)[a]!) (swp d a pivot) (b - 1) (a + 1) + 1) (scanDown (fun x => !lt x (swp d a pivot)[a]!) (swp d a pivot) (scanUp (fun x => lt x (swp d a pivot)[a]!) (swp d a pivot) (b - 1) (a + 1)) (b - 1) - 1) (swp (swp d a pivot) (scanUp (fun x => lt x (swp d a pivot)[a]!) (swp d a pivot) (b - 1) (a + 1)) (scanDown (fun x => !lt x (swp d a pivot)[a]!) (swp d a pivot) (scanUp (fun x => lt x (swp d a pivot)[a]!) (swp d a pivot) (b - 1) (a + 1)) (b - 1)))).1, false,
      swp (partLoop lt a (scanUp (fun x => lt x (swp d a pivot)[a]!) (swp d a pivot) (b - 1) (a + 1) + 1) (scanDown (fun x => !lt x (swp d a pivot)[a]!) (swp d a pivot) (scanUp (fun x => lt x (swp d a pivot)[a]!) (swp d a pivot) (b - 1) (a + 1)) (b - 1) - 1) (swp (swp d a pivot) (scanUp (fun x => lt x (swp d a pivot)[a]!) (swp d a pivot) (b - 1) (a + 1)) (scanDown (fun x => !lt x (swp d a pivot)[a]!) (swp d a pivot) (scanUp (fun x => lt x (swp d a pivot)[a]!) (swp d a pivot) (b - 1) (a + 1)) (b - 1)))).2
        (partLoop lt a (scanUp (fun x => lt x (swp d a pivot)[a]!) (swp d a pivot) (b - 1) (a + 1) + 1) (scanDown (fun x => !lt x (swp d a pivot)[a]!) (swp d a pivot) (scanUp (fun x => lt x (swp d a pivot)[a]!) (swp d a pivot) (b - 1) (a + 1)) (b - 1) - 1) (swp (swp d a pivot) (scanUp (fun x => lt x (swp d a pivot)[a]!) (swp d a pivot) (b - 1) (a + 1)) (scanDown (fun x => !lt x (swp d a pivot)[a]!) (swp d a pivot) (scanUp (fun x => lt x (swp d a pivot)[a]!) (swp d a pivot) (b - 1) (a + 1)) (b - 1)))).1 a) := by
  rfl
def S105 (N : Num) (Γ : Ctx) : Spec := fun args h K => ∃ F v fl fs cl cs lt d, ∃ a b pivot : Nat, args = [.agg #[.func (.func fl) #[] cl, .func (.func fs) #[] cs], .int .i64 a, .int .i64 b, .int .i64 pivot] ∧ So N Γ F v fl fs cl cs lt d.size ∧ Rw F h v d ∧ a < b ∧ b ≤ d.size ∧ pivot < d.size ∧
  ∀ h', Rw F h' v (partition lt d a b pivot).2.2 → kv v h h' → K (.tuple #[.int .i64 ((partition lt d a b pivot).1 : Nat), .bool (partition lt d a b pivot).2.1]) h'
theorem F105_ok {N : Num} {Γ : Ctx} [GoodC Γ] : Sat (S105 N Γ) (SF N Γ F105) := by
  rintro _ h K ⟨F, v, fl, fs, cl, cs, lt, d, a, b, pivot, rfl, hS, hd, hab, hb, hpv, hK⟩
  have hsz := hS.size
  rw [part_eq] at hK
  refine i_fun rfl ?_
  simp only [F105, env0, List.map, List.length, List.replicate, List.cons_append, List.nil_append, Nat.reduceSub, Nat.reduceAdd]
  have hwa : IntKind.i64.wrap ((a : Int) + 1) = ((a + 1 : Nat) : Int) := by rw [w64 (by omega) (by omega)]; omega
  have hwb : IntKind.i64.wrap ((b : Int) - 1) = ((b - 1 : Nat) : Int) := by rw [w64 (by omega) (by omega)]; omega
  try simp (disch := first | omega | (simp only [PL]; omega)) only [PS, P1, P2, P3, P4, P5, P6, P7, P8, PA, PB, PC, Nat.reduceAdd, Nat.reduceSub, Nat.reduceMul, Nat.reduceLeDiff, Nat.reduceEqDiff, Nat.succ_ne_self, reduceCtorEq, Int.reduceToNat, Int.cast_ofNat_Int, Int.reduceEq, Int.reduceNe, Int.reduceLT, Int.reduceLE]
  refine hS.swap h d a pivot _ rfl hd (by omega) (by omega) fun h1 hR hkv => ?_
  have hsk : (swp d a pivot).size = d.size := size_swp _ _ _
  generalize swp d a pivot = d1 at *
  try simp (disch := first | omega | (simp only [PL]; omega)) only [PS, P1, P2, P3, P4, P5, P6, P7, P8, PA, PB, PC, Nat.reduceAdd, Nat.reduceSub, Nat.reduceMul, Nat.reduceLeDiff, Nat.reduceEqDiff, Nat.succ_ne_self, reduceCtorEq, Int.reduceToNat, Int.cast_ofNat_Int, Int.reduceEq, Int.reduceNe, Int.reduceLT, Int.reduceLE, hwa, hwb]
  obtain ⟨i0, hi0⟩ : ∃ i, i = a + 1 := ⟨_, rfl⟩
  obtain ⟨j0, hj0⟩ : ∃ j, j = b - 1 := ⟨_, rfl⟩
  rw [← hi0, ← hj0] at hK ⊢
  have rU := scanUp_rng (p := fun x => lt x d1[a]!) (d := d1) (j := j0) (j0 + 1 - i0) i0 (Nat.le_refl _)
  generalize hi2 : scanUp (fun x => lt x d1[a]!) d1 j0 i0 = i2 at *
  have rD := scanDown_rng (p := fun x => !lt x d1[a]!) (d := d1) (i := i2) j0 j0 (Nat.le_refl _)
  generalize hj2 : scanDown (fun x => !lt x d1[a]!) d1 i2 j0 = j2 at *
  try simp (disch := first | omega | (simp only [PL]; omega)) only [PS, P1, P2, P3, P4, P5, P6, P7, P8, PA, PB, PC, Nat.reduceAdd, Nat.reduceSub, Nat.reduceMul, Nat.reduceLeDiff, Nat.reduceEqDiff, Nat.succ_ne_self, reduceCtorEq, Int.reduceToNat, Int.cast_ofNat_Int, Int.reduceEq, Int.reduceNe, Int.reduceLT, Int.reduceLE]
  refine i_meet_blk (fun env H2 => Heap.le h1 H2 ∧ env = [some (.agg #[.func (.func fl) #[] cl, .func (.func fs) #[] cs]), some (.int .i64 a), some (.int .i64 b), some (.int .i64 pivot), some (.agg #[.func (.func fl) #[] cl, .func (.func fs) #[] cs]), none, none, some (.int .i64 (i2 : Nat)), some (.int .i64 (j0 : Nat)), none, none, none, none, none, none, none, none, none, none, none, none, none, none]) ?_ ?_
  rotate_left
  · refine i_loop (fun x : Nat => [some (.agg #[.func (.func fl) #[] cl, .func (.func fs) #[] cs]), some (.int .i64 a), some (.int .i64 b), some (.int .i64 pivot), some (.agg #[.func (.func fl) #[] cl, .func (.func fs) #[] cs]), none, none, some (.int .i64 (x : Nat)), some (.int .i64 (j0 : Nat)), none, none, none, none, none, none, none, none, none, none, none, none, none, none])
        (fun x H2 => i0 ≤ x ∧ (x ≤ j0 + 1 ∨ x = i0) ∧ Heap.le h1 H2 ∧ scanUp (fun x => lt x d1[a]!) d1 j0 x = i2) (fun x => j0 + 1 - x) i0 (by try simp only [Pe, and_true, true_and, and_self]) ⟨Nat.le_refl _, by omega, Heap.le.refl h1, hi2⟩ ?_
    rintro x H2 ⟨hx1, hx2, hle, hxq⟩
    have hwx : IntKind.i64.wrap ((x : Int) + 1) = ((x + 1 : Nat) : Int) := by rw [w64 (by omega) (by omega)]; omega
    by_cases hxj : x ≤ j0
    rotate_left
    · have hxj' : ((x : Int) ≤ (j0 : Nat)) = False := by rw [eq_iff_iff]; simp; omega
      rw [scanUp_end _ _ _ _ (.inl hxj)] at hxq
      subst hxq
      try simp (disch := first | omega | (simp only [PL]; omega)) only [PS, P1, P2, P3, P4, P5, P6, P7, P8, PA, PB, PC, Nat.reduceAdd, Nat.reduceSub, Nat.reduceMul, Nat.reduceLeDiff, Nat.reduceEqDiff, Nat.succ_ne_self, reduceCtorEq, Int.reduceToNat, Int.cast_ofNat_Int, Int.reduceEq, Int.reduceNe, Int.reduceLT, Int.reduceLE, hxj']
      exact k_meet _ (by try simp only [Pe, and_true, true_and, and_self]) ⟨hle, rfl⟩
    have hxj' : ((x : Int) ≤ (j0 : Nat)) = True := by rw [eq_iff_iff]; simp; omega
    try simp (disch := first | omega | (simp only [PL]; omega)) only [PS, P1, P2, P3, P4, P5, P6, P7, P8, PA, PB, PC, Nat.reduceAdd, Nat.reduceSub, Nat.reduceMul, Nat.reduceLeDiff, Nat.reduceEqDiff, Nat.succ_ne_self, reduceCtorEq, Int.reduceToNat, Int.cast_ofNat_Int, Int.reduceEq, Int.reduceNe, Int.reduceLT, Int.reduceLE, hxj']
    refine hS.less H2 d1 x a _ hsk (hR.le hle) (by omega) (by omega) fun H3 hle3 => ?_
    cases hl : lt d1[x]! d1[a]! with
    | false =>
      rw [scanUp_end _ _ _ _ (.inr (by simp [hl]))] at hxq
      subst hxq
      try simp (disch := first | omega | (simp only [PL]; omega)) only [PS, P1, P2, P3, P4, P5, P6, P7, P8, PA, PB, PC, Nat.reduceAdd, Nat.reduceSub, Nat.reduceMul, Nat.reduceLeDiff, Nat.reduceEqDiff, Nat.succ_ne_self, reduceCtorEq, Int.reduceToNat, Int.cast_ofNat_Int, Int.reduceEq, Int.reduceNe, Int.reduceLT, Int.reduceLE]
      exact k_meet _ (by try simp only [Pe, and_true, true_and, and_self]) ⟨hle.trans hle3, rfl⟩
    | true =>
      rw [scanUp_go _ _ _ _ hxj (by simp [hl])] at hxq
      try simp (disch := first | omega | (simp only [PL]; omega)) only [PS, P1, P2, P3, P4, P5, P6, P7, P8, PA, PB, PC, Nat.reduceAdd, Nat.reduceSub, Nat.reduceMul, Nat.reduceLeDiff, Nat.reduceEqDiff, Nat.succ_ne_self, reduceCtorEq, Int.reduceToNat, Int.cast_ofNat_Int, Int.reduceEq, Int.reduceNe, Int.reduceLT, Int.reduceLE, hwx]
      exact k_loop (x + 1) (by omega) (by try simp only [Pe, and_true, true_and, and_self]) ⟨by omega, by omega, hle.trans hle3, hxq⟩
  rintro env H2 ⟨hleU, rfl⟩
  try simp (disch := first | omega | (simp only [PL]; omega)) only [PS, P1, P2, P3, P4, P5, P6, P7, P8, PA, PB, PC, Nat.reduceAdd, Nat.reduceSub, Nat.reduceMul, Nat.reduceLeDiff, Nat.reduceEqDiff, Nat.succ_ne_self, reduceCtorEq, Int.reduceToNat, Int.cast_ofNat_Int, Int.reduceEq, Int.reduceNe, Int.reduceLT, Int.reduceLE]
  refine i_meet_blk (fun env H3 => Heap.le h1 H3 ∧ env = [some (.agg #[.func (.func fl) #[] cl, .func (.func fs) #[] cs]), some (.int .i64 a), some (.int .i64 b), some (.int .i64 pivot), some (.agg #[.func (.func fl) #[] cl, .func (.func fs) #[] cs]), none, none, some (.int .i64 (i2 : Nat)), some (.int .i64 (j2 : Nat)), none, none, none, none, none, none, none, none, none, none, none, none, none, none]) ?_ ?_
  rotate_left
  · refine i_loop (fun y : Nat => [some (.agg #[.func (.func fl) #[] cl, .func (.func fs) #[] cs]), some (.int .i64 a), some (.int .i64 b), some (.int .i64 pivot), some (.agg #[.func (.func fl) #[] cl, .func (.func fs) #[] cs]), none, none, some (.int .i64 (i2 : Nat)), some (.int .i64 (y : Nat)), none, none, none, none, none, none, none, none, none, none, none, none, none, none])
        (fun y H3 => (i2 ≤ y + 1 ∨ y = j0) ∧ y ≤ j0 ∧ Heap.le h1 H3 ∧ scanDown (fun x => !lt x d1[a]!) d1 i2 y = j2) (fun y => y) j0 (by try simp only [Pe, and_true, true_and, and_self]) ⟨by omega, Nat.le_refl _, hleU, hj2⟩ ?_
    rintro y H3 ⟨hy1, hy2, hle, hyq⟩
    by_cases hyj : i2 ≤ y
    rotate_left
    · have hyj' : ((i2 : Int) ≤ (y : Int)) = False := by rw [eq_iff_iff]; simp; omega
      rw [scanDown_end _ _ _ _ (.inl hyj)] at hyq
      subst hyq
      try simp (disch := first | omega | (simp only [PL]; omega)) only [PS, P1, P2, P3, P4, P5, P6, P7, P8, PA, PB, PC, Nat.reduceAdd, Nat.reduceSub, Nat.reduceMul, Nat.reduceLeDiff, Nat.reduceEqDiff, Nat.succ_ne_self, reduceCtorEq, Int.reduceToNat, Int.cast_ofNat_Int, Int.reduceEq, Int.reduceNe, Int.reduceLT, Int.reduceLE, hyj']
      exact k_meet _ (by try simp only [Pe, and_true, true_and, and_self]) ⟨hle, rfl⟩
    have hyj' : ((i2 : Int) ≤ (y : Int)) = True := by rw [eq_iff_iff]; simp; omega
    have hwy : IntKind.i64.wrap ((y : Int) - 1) = ((y - 1 : Nat) : Int) := by rw [w64 (by omega) (by omega)]; omega
    try simp (disch := first | omega | (simp only [PL]; omega)) only [PS, P1, P2, P3, P4, P5, P6, P7, P8, PA, PB, PC, Nat.reduceAdd, Nat.reduceSub, Nat.reduceMul, Nat.reduceLeDiff, Nat.reduceEqDiff, Nat.succ_ne_self, reduceCtorEq, Int.reduceToNat, Int.cast_ofNat_Int, Int.reduceEq, Int.reduceNe, Int.reduceLT, Int.reduceLE, hyj']
    refine hS.less H3 d1 y a _ hsk (hR.le hle) (by omega) (by omega) fun H4 hle4 => ?_
    cases hl : lt d1[y]! d1[a]! with
    | false =>
      rw [scanDown_go _ _ _ _ hyj (by omega) (by simp [hl])] at hyq
      try simp (disch := first | omega | (simp only [PL]; omega)) only [PS, P1, P2, P3, P4, P5, P6, P7, P8, PA, PB, PC, Nat.reduceAdd, Nat.reduceSub, Nat.reduceMul, Nat.reduceLeDiff, Nat.reduceEqDiff, Nat.succ_ne_self, reduceCtorEq, Int.reduceToNat, Int.cast_ofNat_Int, Int.reduceEq, Int.reduceNe, Int.reduceLT, Int.reduceLE, hwy]
      exact k_loop (y - 1) (by omega) (by try simp only [Pe, and_true, true_and, and_self]) ⟨by omega, by omega, hle.trans hle4, hyq⟩
    | true =>
      rw [scanDown_end _ _ _ _ (.inr (by simp [hl]))] at hyq
      subst hyq
      try simp (disch := first | omega | (simp only [PL]; omega)) only [PS, P1, P2, P3, P4, P5, P6, P7, P8, PA, PB, PC, Nat.reduceAdd, Nat.reduceSub, Nat.reduceMul, Nat.reduceLeDiff, Nat.reduceEqDiff, Nat.succ_ne_self, reduceCtorEq, Int.reduceToNat, Int.cast_ofNat_Int, Int.reduceEq, Int.reduceNe, Int.reduceLT, Int.reduceLE]
      exact k_meet _ (by try simp only [Pe, and_true, true_and, and_self]) ⟨hle.trans hle4, rfl⟩
  rintro env H3 ⟨hleD, rfl⟩
  have hR3 := hR.le hleD
  have hkv3 := hkv.trans (kv.of_le hleD)
  try simp (disch := first | omega | (simp only [PL]; omega)) only [PS, P1, P2, P3, P4, P5, P6, P7, P8, PA, PB, PC, Nat.reduceAdd, Nat.reduceSub, Nat.reduceMul, Nat.reduceLeDiff, Nat.reduceEqDiff, Nat.succ_ne_self, reduceCtorEq, Int.reduceToNat, Int.cast_ofNat_Int, Int.reduceEq, Int.reduceNe, Int.reduceLT, Int.reduceLE]
  refine i_cond (fun c => ?_) (fun c => ?_)
  · rw [if_pos (by omega)] at hK
    try simp (disch := first | omega | (simp only [PL]; omega)) only [PS, P1, P2, P3, P4, P5, P6, P7, P8, PA, PB, PC, Nat.reduceAdd, Nat.reduceSub, Nat.reduceMul, Nat.reduceLeDiff, Nat.reduceEqDiff, Nat.succ_ne_self, reduceCtorEq, Int.reduceToNat, Int.cast_ofNat_Int, Int.reduceEq, Int.reduceNe, Int.reduceLT, Int.reduceLE]
    refine hS.swap H3 d1 j2 a _ hsk hR3 (by omega) (by omega) fun H5 hR5 hk5 => ?_
    try simp (disch := first | omega | (simp only [PL]; omega)) only [PS, P1, P2, P3, P4, P5, P6, P7, P8, PA, PB, PC, Nat.reduceAdd, Nat.reduceSub, Nat.reduceMul, Nat.reduceLeDiff, Nat.reduceEqDiff, Nat.succ_ne_self, reduceCtorEq, Int.reduceToNat, Int.cast_ofNat_Int, Int.reduceEq, Int.reduceNe, Int.reduceLT, Int.reduceLE]
    exact hK H5 hR5 (hkv3.trans hk5)
  rw [if_neg (by omega)] at hK
  have hw1 : IntKind.i64.wrap ((i2 : Int) + 1) = ((i2 + 1 : Nat) : Int) := by rw [w64 (by omega) (by omega)]; omega
  have hw2 : IntKind.i64.wrap ((j2 : Int) - 1) = ((j2 - 1 : Nat) : Int) := by rw [w64 (by omega) (by omega)]; omega
  try simp (disch := first | omega | (simp only [PL]; omega)) only [PS, P1, P2, P3, P4, P5, P6, P7, P8, PA, PB, PC, Nat.reduceAdd, Nat.reduceSub, Nat.reduceMul, Nat.reduceLeDiff, Nat.reduceEqDiff, Nat.succ_ne_self, reduceCtorEq, Int.reduceToNat, Int.cast_ofNat_Int, Int.reduceEq, Int.reduceNe, Int.reduceLT, Int.reduceLE]
  refine hS.swap H3 d1 i2 j2 _ hsk hR3 (by omega) (by omega) fun H5 hR5 hk5 => ?_
  have hs2 : (swp d1 i2 j2).size = d.size := by rw [size_swp]; exact hsk
  have hkv5 := hkv3.trans hk5
  generalize swp d1 i2 j2 = d2 at *
  have hr1 : a < i2 + 1 ∧ i2 + 1 ≤ j2 - 1 + 2 ∧ j2 - 1 < b := by omega
  try simp (disch := first | omega | (simp only [PL]; omega)) only [PS, P1, P2, P3, P4, P5, P6, P7, P8, PA, PB, PC, Nat.reduceAdd, Nat.reduceSub, Nat.reduceMul, Nat.reduceLeDiff, Nat.reduceEqDiff, Nat.succ_ne_self, reduceCtorEq, Int.reduceToNat, Int.cast_ofNat_Int, Int.reduceEq, Int.reduceNe, Int.reduceLT, Int.reduceLE, hw1, hw2]
  obtain ⟨i1, hi1⟩ : ∃ i, i = i2 + 1 := ⟨_, rfl⟩
  obtain ⟨j1, hj1⟩ : ∃ j, j = j2 - 1 := ⟨_, rfl⟩
  have hij1 : i1 ≤ j1 + 2 := by omega
  rw [← hi1, ← hj1] at hK hr1 ⊢
  clear hR3 hkv3 hR hkv hk5 hleU hleD hsk
  clear hi2 hj2 rU rD hi0 hj0 c hw1 hw2 hi1 hj1
  refine i_meet_blk (fun env H => ∃ d9, d9.size = d.size ∧ Rw F H v d9 ∧ kv v h H ∧ d9 = (partLoop lt a i1 j1 d2).2 ∧ (partLoop lt a i1 j1 d2).1 < b ∧ env = [some (.agg #[.func (.func fl) #[] cl, .func (.func fs) #[] cs]), some (.int .i64 a), some (.int .i64 b), some (.int .i64 pivot), some (.agg #[.func (.func fl) #[] cl, .func (.func fs) #[] cs]), none, none, none, some (.int .i64 ((partLoop lt a i1 j1 d2).1 : Nat)), none, none, none, none, none, none, none, none, none, none, none, none, none, none]) ?_ ?_
  rotate_left
  · refine i_loop (fun x : Nat × Nat × Array Si => [some (.agg #[.func (.func fl) #[] cl, .func (.func fs) #[] cs]), some (.int .i64 a), some (.int .i64 b), some (.int .i64 pivot), some (.agg #[.func (.func fl) #[] cl, .func (.func fs) #[] cs]), none, none, some (.int .i64 (x.1 : Nat)), some (.int .i64 (x.2.1 : Nat)), none, none, none, none, none, none, none, none, none, none, none, none, none, none])
      (fun x H => a < x.1 ∧ x.1 ≤ x.2.1 + 2 ∧ x.2.1 < b ∧ x.2.2.size = d.size ∧ Rw F H v x.2.2 ∧ kv v h H ∧ partLoop lt a x.1 x.2.1 x.2.2 = partLoop lt a i1 j1 d2) (fun x => x.2.1 + 1 - x.1) (i1, j1, d2) (by dsimp only; try simp only [Pe, and_true, true_and, and_self]) ⟨by dsimp only; omega, by dsimp only; omega, by dsimp only; omega, hs2, hR5, hkv5, rfl⟩ ?_
    clear hR5 hkv5 hs2 hr1 hij1
    rintro ⟨i, j, dk⟩ H ⟨hai, hij, hjb, hsk, hR, hkv, hP⟩
    dsimp only at hai hij hjb hsk hR hP ⊢
    rw [partLoop_eq] at hP
    have rU := scanUp_rng (p := fun x => lt x dk[a]!) (d := dk) (j := j) (j + 1 - i) i (Nat.le_refl _)
    generalize hi2 : scanUp (fun x => lt x dk[a]!) dk j i = i2 at *
    have rD := scanDown_rng (p := fun x => !lt x dk[a]!) (d := dk) (i := i2) j j (Nat.le_refl _)
    generalize hj2 : scanDown (fun x => !lt x dk[a]!) dk i2 j = j2 at *
    try simp (disch := first | omega | (simp only [PL]; omega)) only [PS, P1, P2, P3, P4, P5, P6, P7, P8, PA, PB, PC, Nat.reduceAdd, Nat.reduceSub, Nat.reduceMul, Nat.reduceLeDiff, Nat.reduceEqDiff, Nat.succ_ne_self, reduceCtorEq, Int.reduceToNat, Int.cast_ofNat_Int, Int.reduceEq, Int.reduceNe, Int.reduceLT, Int.reduceLE]
    refine i_meet_blk (fun env H2 => Heap.le H H2 ∧ env = [some (.agg #[.func (.func fl) #[] cl, .func (.func fs) #[] cs]), some (.int .i64 a), some (.int .i64 b), some (.int .i64 pivot), some (.agg #[.func (.func fl) #[] cl, .func (.func fs) #[] cs]), none, none, some (.int .i64 (i2 : Nat)), some (.int .i64 (j : Nat)), none, none, none, none, none, none, none, none, none, none, none, none, none, none]) ?_ ?_
    rotate_left
    · refine i_loop (fun x : Nat => [some (.agg #[.func (.func fl) #[] cl, .func (.func fs) #[] cs]), some (.int .i64 a), some (.int .i64 b), some (.int .i64 pivot), some (.agg #[.func (.func fl) #[] cl, .func (.func fs) #[] cs]), none, none, some (.int .i64 (x : Nat)), some (.int .i64 (j : Nat)), none, none, none, none, none, none, none, none, none, none, none, none, none, none])
          (fun x H2 => i ≤ x ∧ (x ≤ j + 1 ∨ x = i) ∧ Heap.le H H2 ∧ scanUp (fun x => lt x dk[a]!) dk j x = i2) (fun x => j + 1 - x) i (by try simp only [Pe, and_true, true_and, and_self]) ⟨Nat.le_refl _, by omega, Heap.le.refl H, hi2⟩ ?_
      rintro x H2 ⟨hx1, hx2, hle, hxq⟩
      have hwx : IntKind.i64.wrap ((x : Int) + 1) = ((x + 1 : Nat) : Int) := by rw [w64 (by omega) (by omega)]; omega
      by_cases hxj : x ≤ j
      rotate_left
      · have hxj' : ((x : Int) ≤ (j : Nat)) = False := by rw [eq_iff_iff]; simp; omega
        rw [scanUp_end _ _ _ _ (.inl hxj)] at hxq
        subst hxq
        try simp (disch := first | omega | (simp only [PL]; omega)) only [PS, P1, P2, P3, P4, P5, P6, P7, P8, PA, PB, PC, Nat.reduceAdd, Nat.reduceSub, Nat.reduceMul, Nat.reduceLeDiff, Nat.reduceEqDiff, Nat.succ_ne_self, reduceCtorEq, Int.reduceToNat, Int.cast_ofNat_Int, Int.reduceEq, Int.reduceNe, Int.reduceLT, Int.reduceLE, hxj']
        exact k_meet _ (by try simp only [Pe, and_true, true_and, and_self]) ⟨hle, rfl⟩
      have hxj' : ((x : Int) ≤ (j : Nat)) = True := by rw [eq_iff_iff]; simp; omega
      try simp (disch := first | omega | (simp only [PL]; omega)) only [PS, P1, P2, P3, P4, P5, P6, P7, P8, PA, PB, PC, Nat.reduceAdd, Nat.reduceSub, Nat.reduceMul, Nat.reduceLeDiff, Nat.reduceEqDiff, Nat.succ_ne_self, reduceCtorEq, Int.reduceToNat, Int.cast_ofNat_Int, Int.reduceEq, Int.reduceNe, Int.reduceLT, Int.reduceLE, hxj']
      refine hS.less H2 dk x a _ hsk (hR.le hle) (by omega) (by omega) fun H3 hle3 => ?_
      cases hl : lt dk[x]! dk[a]! with
      | false =>
        rw [scanUp_end _ _ _ _ (.inr (by simp [hl]))] at hxq
        subst hxq
        try simp (disch := first | omega | (simp only [PL]; omega)) only [PS, P1, P2, P3, P4, P5, P6, P7, P8, PA, PB, PC, Nat.reduceAdd, Nat.reduceSub, Nat.reduceMul, Nat.reduceLeDiff, Nat.reduceEqDiff, Nat.succ_ne_self, reduceCtorEq, Int.reduceToNat, Int.cast_ofNat_Int, Int.reduceEq, Int.reduceNe, Int.reduceLT, Int.reduceLE]
        exact k_meet _ (by try simp only [Pe, and_true, true_and, and_self]) ⟨hle.trans hle3, rfl⟩
      | true =>
        rw [scanUp_go _ _ _ _ hxj (by simp [hl])] at hxq
        try simp (disch := first | omega | (simp only [PL]; omega)) only [PS, P1, P2, P3, P4, P5, P6, P7, P8, PA, PB, PC, Nat.reduceAdd, Nat.reduceSub, Nat.reduceMul, Nat.reduceLeDiff, Nat.reduceEqDiff, Nat.succ_ne_self, reduceCtorEq, Int.reduceToNat, Int.cast_ofNat_Int, Int.reduceEq, Int.reduceNe, Int.reduceLT, Int.reduceLE, hwx]
        exact k_loop (x + 1) (by omega) (by try simp only [Pe, and_true, true_and, and_self]) ⟨by omega, by omega, hle.trans hle3, hxq⟩
    rintro env H2 ⟨hleU, rfl⟩
    try simp (disch := first | omega | (simp only [PL]; omega)) only [PS, P1, P2, P3, P4, P5, P6, P7, P8, PA, PB, PC, Nat.reduceAdd, Nat.reduceSub, Nat.reduceMul, Nat.reduceLeDiff, Nat.reduceEqDiff, Nat.succ_ne_self, reduceCtorEq, Int.reduceToNat, Int.cast_ofNat_Int, Int.reduceEq, Int.reduceNe, Int.reduceLT, Int.reduceLE]
    refine i_meet_blk (fun env H3 => Heap.le H H3 ∧ env = [some (.agg #[.func (.func fl) #[] cl, .func (.func fs) #[] cs]), some (.int .i64 a), some (.int .i64 b), some (.int .i64 pivot), some (.agg #[.func (.func fl) #[] cl, .func (.func fs) #[] cs]), none, none, some (.int .i64 (i2 : Nat)), some (.int .i64 (j2 : Nat)), none, none, none, none, none, none, none, none, none, none, none, none, none, none]) ?_ ?_
    rotate_left
    · refine i_loop (fun y : Nat => [some (.agg #[.func (.func fl) #[] cl, .func (.func fs) #[] cs]), some (.int .i64 a), some (.int .i64 b), some (.int .i64 pivot), some (.agg #[.func (.func fl) #[] cl, .func (.func fs) #[] cs]), none, none, some (.int .i64 (i2 : Nat)), some (.int .i64 (y : Nat)), none, none, none, none, none, none, none, none, none, none, none, none, none, none])
          (fun y H3 => (i2 ≤ y + 1 ∨ y = j) ∧ y ≤ j ∧ Heap.le H H3 ∧ scanDown (fun x => !lt x dk[a]!) dk i2 y = j2) (fun y => y) j (by try simp only [Pe, and_true, true_and, and_self]) ⟨by omega, Nat.le_refl _, hleU, hj2⟩ ?_
      rintro y H3 ⟨hy1, hy2, hle, hyq⟩
      by_cases hyj : i2 ≤ y
      rotate_left
      · have hyj' : ((i2 : Int) ≤ (y : Int)) = False := by rw [eq_iff_iff]; simp; omega
        rw [scanDown_end _ _ _ _ (.inl hyj)] at hyq
        subst hyq
        try simp (disch := first | omega | (simp only [PL]; omega)) only [PS, P1, P2, P3, P4, P5, P6, P7, P8, PA, PB, PC, Nat.reduceAdd, Nat.reduceSub, Nat.reduceMul, Nat.reduceLeDiff, Nat.reduceEqDiff, Nat.succ_ne_self, reduceCtorEq, Int.reduceToNat, Int.cast_ofNat_Int, Int.reduceEq, Int.reduceNe, Int.reduceLT, Int.reduceLE, hyj']
        exact k_meet _ (by try simp only [Pe, and_true, true_and, and_self]) ⟨hle, rfl⟩
      have hyj' : ((i2 : Int) ≤ (y : Int)) = True := by rw [eq_iff_iff]; simp; omega
      have hwy : IntKind.i64.wrap ((y : Int) - 1) = ((y - 1 : Nat) : Int) := by rw [w64 (by omega) (by omega)]; omega
      try simp (disch := first | omega | (simp only [PL]; omega)) only [PS, P1, P2, P3, P4, P5, P6, P7, P8, PA, PB, PC, Nat.reduceAdd, Nat.reduceSub, Nat.reduceMul, Nat.reduceLeDiff, Nat.reduceEqDiff, Nat.succ_ne_self, reduceCtorEq, Int.reduceToNat, Int.cast_ofNat_Int, Int.reduceEq, Int.reduceNe, Int.reduceLT, Int.reduceLE, hyj']
      refine hS.less H3 dk y a _ hsk (hR.le hle) (by omega) (by omega) fun H4 hle4 => ?_
      cases hl : lt dk[y]! dk[a]! with
      | false =>
        rw [scanDown_go _ _ _ _ hyj (by omega) (by simp [hl])] at hyq
        try simp (disch := first | omega | (simp only [PL]; omega)) only [PS, P1, P2, P3, P4, P5, P6, P7, P8, PA, PB, PC, Nat.reduceAdd, Nat.reduceSub, Nat.reduceMul, Nat.reduceLeDiff, Nat.reduceEqDiff, Nat.succ_ne_self, reduceCtorEq, Int.reduceToNat, Int.cast_ofNat_Int, Int.reduceEq, Int.reduceNe, Int.reduceLT, Int.reduceLE, hwy]
        exact k_loop (y - 1) (by omega) (by try simp only [Pe, and_true, true_and, and_self]) ⟨by omega, by omega, hle.trans hle4, hyq⟩
      | true =>
        rw [scanDown_end _ _ _ _ (.inr (by simp [hl]))] at hyq
        subst hyq
        try simp (disch := first | omega | (simp only [PL]; omega)) only [PS, P1, P2, P3, P4, P5, P6, P7, P8, PA, PB, PC, Nat.reduceAdd, Nat.reduceSub, Nat.reduceMul, Nat.reduceLeDiff, Nat.reduceEqDiff, Nat.succ_ne_self, reduceCtorEq, Int.reduceToNat, Int.cast_ofNat_Int, Int.reduceEq, Int.reduceNe, Int.reduceLT, Int.reduceLE]
        exact k_meet _ (by try simp only [Pe, and_true, true_and, and_self]) ⟨hle.trans hle4, rfl⟩
    rintro env H3 ⟨hleD, rfl⟩
    have hR3 := hR.le hleD
    have hkv3 := hkv.trans (kv.of_le hleD)
    try simp (disch := first | omega | (simp only [PL]; omega)) only [PS, P1, P2, P3, P4, P5, P6, P7, P8, PA, PB, PC, Nat.reduceAdd, Nat.reduceSub, Nat.reduceMul, Nat.reduceLeDiff, Nat.reduceEqDiff, Nat.succ_ne_self, reduceCtorEq, Int.reduceToNat, Int.cast_ofNat_Int, Int.reduceEq, Int.reduceNe, Int.reduceLT, Int.reduceLE]
    refine i_cond (fun c => ?_) (fun c => ?_)
    · rw [if_pos (by omega)] at hP
      rw [← hP]
      try simp (disch := first | omega | (simp only [PL]; omega)) only [PS, P1, P2, P3, P4, P5, P6, P7, P8, PA, PB, PC, Nat.reduceAdd, Nat.reduceSub, Nat.reduceMul, Nat.reduceLeDiff, Nat.reduceEqDiff, Nat.succ_ne_self, reduceCtorEq, Int.reduceToNat, Int.cast_ofNat_Int, Int.reduceEq, Int.reduceNe, Int.reduceLT, Int.reduceLE]
      exact k_meet _ (by try simp only [Pe, and_true, true_and, and_self]) ⟨dk, hsk, hR3, hkv3, rfl, by omega, rfl⟩
    rw [if_neg (by omega)] at hP
    have hw1 : IntKind.i64.wrap ((i2 : Int) + 1) = ((i2 + 1 : Nat) : Int) := by rw [w64 (by omega) (by omega)]; omega
    have hw2 : IntKind.i64.wrap ((j2 : Int) - 1) = ((j2 - 1 : Nat) : Int) := by rw [w64 (by omega) (by omega)]; omega
    try simp (disch := first | omega | (simp only [PL]; omega)) only [PS, P1, P2, P3, P4, P5, P6, P7, P8, PA, PB, PC, Nat.reduceAdd, Nat.reduceSub, Nat.reduceMul, Nat.reduceLeDiff, Nat.reduceEqDiff, Nat.succ_ne_self, reduceCtorEq, Int.reduceToNat, Int.cast_ofNat_Int, Int.reduceEq, Int.reduceNe, Int.reduceLT, Int.reduceLE]
    refine hS.swap H3 dk i2 j2 _ hsk hR3 (by omega) (by omega) fun H5 hR5 hk5 => ?_
    try simp (disch := first | omega | (simp only [PL]; omega)) only [PS, P1, P2, P3, P4, P5, P6, P7, P8, PA, PB, PC, Nat.reduceAdd, Nat.reduceSub, Nat.reduceMul, Nat.reduceLeDiff, Nat.reduceEqDiff, Nat.succ_ne_self, reduceCtorEq, Int.reduceToNat, Int.cast_ofNat_Int, Int.reduceEq, Int.reduceNe, Int.reduceLT, Int.reduceLE, hw1, hw2]
    exact k_loop (i2 + 1, j2 - 1, swp dk i2 j2) (by dsimp only; omega) (by dsimp only; try simp only [Pe, and_true, true_and, and_self]) ⟨by dsimp only; omega, by dsimp only; omega, by dsimp only; omega, by dsimp only; rw [size_swp]; exact hsk, hR5, hkv3.trans hk5, hP⟩
  clear hR5 hkv5
  rintro env H ⟨d9, hs9, hR9, hkv9, hd9, hlt9, rfl⟩
  rw [← hd9] at hK
  generalize (partLoop lt a i1 j1 d2).1 = j9 at *
  try simp (disch := first | omega | (simp only [PL]; omega)) only [PS, P1, P2, P3, P4, P5, P6, P7, P8, PA, PB, PC, Nat.reduceAdd, Nat.reduceSub, Nat.reduceMul, Nat.reduceLeDiff, Nat.reduceEqDiff, Nat.succ_ne_self, reduceCtorEq, Int.reduceToNat, Int.cast_ofNat_Int, Int.reduceEq, Int.reduceNe, Int.reduceLT, Int.reduceLE]
  refine hS.swap H d9 j9 a _ hs9 hR9 (by omega) (by omega) fun H5 hR5 hk5 => ?_
  try simp (disch := first | omega | (simp only [PL]; omega)) only [PS, P1, P2, P3, P4, P5, P6, P7, P8, PA, PB, PC, Nat.reduceAdd, Nat.reduceSub, Nat.reduceMul, Nat.reduceLeDiff, Nat.reduceEqDiff, Nat.succ_ne_self, reduceCtorEq, Int.reduceToNat, Int.cast_ofNat_Int, Int.reduceEq, Int.reduceNe, Int.reduceLT, Int.reduceLE]
  exact hK H5 hR5 (hkv9.trans hk5)
end Go.Cw
namespace Go.Cw
open Go Go.Sort Go.Proofs

theorem shl_mod (k' : IntKind) (x s : Nat) (hs : s ≤ 64) : binV .shl (.int .u64 (x : Int)) (.int k' (s : Int)) = some (.int .u64 ((x * 2 ^ s % 18446744073709551616 : Nat) : Int)) := by
  simp only [binV, shiftV]
  rw [if_neg (by omega), Int.toNat_natCast, show Nat.min s IntKind.u64.bits = s from Nat.min_eq_left hs]
  have h1 : (x : Int) * 2 ^ s = ((x * 2 ^ s : Nat) : Int) := by simp
  rw [h1]
  simp [IntKind.wrap, IntKind.bits, IntKind.signed]
theorem xor_u64 (x y : Nat) (hx : x < 2 ^ 64) (hy : y < 2 ^ 64) : binV .xor (.int .u64 (x : Int)) (.int .u64 (y : Int)) = some (.int .u64 ((x ^^^ y : Nat) : Int)) := by
  have hb : (BitVec.ofInt IntKind.u64.bits (x : Int) ^^^ BitVec.ofInt IntKind.u64.bits (y : Int)).toNat = x ^^^ y := by rw [BitVec.toNat_xor, bits_nat IntKind.u64.bits x hx, bits_nat IntKind.u64.bits y hy]
  simp only [binV, intV, if_true]
  rw [hb, wrap_u64 _ (Nat.xor_lt_two_pow hx hy)]

theorem objAt_kept {h h' : Heap} {b : Nat} {cs : List Value} (ho : objAt h ⟨b, 0, none⟩ cs) (hk : ∀ o, h b = some o → h' b = some o) : objAt h' ⟨b, 0, none⟩ cs := by
  obtain ⟨h1, c, t, h2, h3⟩ := ho
  exact ⟨h1, c, t, hk _ h2, h3⟩
def S76 : Spec := fun args h K => ∃ n : Nat, args = [.int .u64 n] ∧ n < 2 ^ 60 ∧ K (.int .i64 (bitsLen n : Nat)) h
def S113 : Spec := fun args h K => ∃ n : Nat, args = [.int .i64 n] ∧ n < 2 ^ 60 ∧ K (.int .u64 (1 <<< bitsLen n : Nat)) h
theorem F113_ok {N : Num} {Γ : Ctx} [GoodC Γ] (H76 : Sat S76 (Γ 76)) : Sat S113 (SF N Γ F113) := by
  rintro _ h K ⟨n, rfl, hn, hK⟩
  refine i_fun rfl ?_
  simp only [F113, env0, List.map, List.length, List.replicate, List.cons_append, List.nil_append, Nat.reduceSub, Nat.reduceAdd]
  have hw : IntKind.u64.wrap (n : Int) = (n : Int) := wrap_u64 _ (by omega)
  have hl : bitsLen n ≤ 60 := (bitsLen_le_iff n 60).2 hn
  have hw2 : IntKind.u64.wrap ((bitsLen n : Nat) : Int) = ((bitsLen n : Nat) : Int) := wrap_u64 _ (by omega)
  have hp : 2 ^ bitsLen n ≤ 2 ^ 60 := Nat.pow_le_pow_right (by omega) hl
  have hs := shl_nat .u64 1 (bitsLen n) (by omega) (by omega)
  rw [Nat.one_mul] at hs
  rw [Nat.one_shiftLeft] at hK
  try simp (disch := first | omega | (simp only [PL]; omega)) only [PS, P1, P2, P3, P4, P5, P6, P7, P8, PA, PB, PC, Nat.reduceAdd, Nat.reduceSub, Nat.reduceMul, Nat.reduceLeDiff, Nat.reduceEqDiff, Nat.succ_ne_self, reduceCtorEq, Int.reduceToNat, Int.cast_ofNat_Int, Int.reduceEq, Int.reduceNe, Int.reduceLT, Int.reduceLE, hw]
  refine i_call H76 ⟨n, rfl, hn, ?_⟩
  have hs' : binV .shl (.int .u64 1) (.int .u64 ((bitsLen n : Nat) : Int)) = some (.int .u64 ((2 ^ bitsLen n : Nat) : Int)) := hs
  try simp (disch := first | omega | (simp only [PL]; omega)) only [PS, P1, P2, P3, P4, P5, P6, P7, P8, PA, PB, PC, Nat.reduceAdd, Nat.reduceSub, Nat.reduceMul, Nat.reduceLeDiff, Nat.reduceEqDiff, Nat.succ_ne_self, reduceCtorEq, Int.reduceToNat, Int.cast_ofNat_Int, Int.reduceEq, Int.reduceNe, Int.reduceLT, Int.reduceLE, hw2, hs']
  exact hK

def S114 : Spec := fun args h K => ∃ b, ∃ x : Nat, args = [.pointer (some ⟨b, 0, none⟩)] ∧ objAt h ⟨b, 0, none⟩ [.int .u64 x] ∧ x < 18446744073709551616 ∧ ∀ h', kb b h h' → objAt h' ⟨b, 0, none⟩ [.int .u64 (xorNextN x : Nat)] → K (.int .u64 (xorNextN x : Nat)) h'
theorem F114_ok {N : Num} {Γ : Ctx} [GoodC Γ] : Sat S114 (SF N Γ F114) := by
  rintro _ h K ⟨b, x, rfl, ho, hx, hK⟩
  have hlt := xorNextN_lt x hx
  refine i_fun rfl ?_
  simp only [F114, env0, List.map, List.length, List.replicate, List.cons_append, List.nil_append, Nat.reduceSub, Nat.reduceAdd]
  have hc : h.cell ⟨b, 0, none⟩ = some (.int .u64 x) := ho.rules.2.1 (by simp)
  obtain ⟨x1, hx1⟩ : ∃ x1, x1 = x * 2 ^ 13 % 18446744073709551616 := ⟨_, rfl⟩
  have hx1l : x1 < 2 ^ 64 := by rw [hx1]; exact Nat.mod_lt _ (by omega)
  obtain ⟨y, hy⟩ : ∃ y, y = x ^^^ x1 := ⟨_, rfl⟩
  have hyl : y < 2 ^ 64 := by rw [hy]; exact Nat.xor_lt_two_pow hx hx1l
  obtain ⟨y1, hy1⟩ : ∃ y1, y1 = y / 2 ^ 7 := ⟨_, rfl⟩
  have hy1l : y1 < 2 ^ 64 := by omega
  obtain ⟨z, hz⟩ : ∃ z, z = y ^^^ y1 := ⟨_, rfl⟩
  have hzl : z < 2 ^ 64 := by rw [hz]; exact Nat.xor_lt_two_pow hyl hy1l
  obtain ⟨z1, hz1⟩ : ∃ z1, z1 = z * 2 ^ 17 % 18446744073709551616 := ⟨_, rfl⟩
  have hz1l : z1 < 2 ^ 64 := by rw [hz1]; exact Nat.mod_lt _ (by omega)
  obtain ⟨q, hq⟩ : ∃ q, q = z ^^^ z1 := ⟨_, rfl⟩
  have hxn : xorNextN x = q := by rw [hq, hz1, hz, hy1, hy, hx1]; rfl
  rw [hxn] at hK hlt
  have s1 : binV .shl (.int .u64 (x : Int)) (.int .u64 13) = some (.int .u64 (x1 : Int)) := by rw [hx1]; exact shl_mod .u64 x 13 (by omega)
  have t1 : binV .xor (.int .u64 (x : Int)) (.int .u64 (x1 : Int)) = some (.int .u64 (y : Int)) := by rw [hy]; exact xor_u64 x x1 hx hx1l
  have s2 : binV .shr (.int .u64 (y : Int)) (.int .u64 7) = some (.int .u64 (y1 : Int)) := by rw [hy1]; exact shr_nat .u64 .u64 y 7 (by simp [IntKind.bits])
  have t2 : binV .xor (.int .u64 (y : Int)) (.int .u64 (y1 : Int)) = some (.int .u64 (z : Int)) := by rw [hz]; exact xor_u64 y y1 hyl hy1l
  have s3 : binV .shl (.int .u64 (z : Int)) (.int .u64 17) = some (.int .u64 (z1 : Int)) := by rw [hz1]; exact shl_mod .u64 z 17 (by omega)
  have t3 : binV .xor (.int .u64 (z : Int)) (.int .u64 (z1 : Int)) = some (.int .u64 (q : Int)) := by rw [hq]; exact xor_u64 z z1 hzl hz1l
  clear hx1 hy hy1 hz hz1 hq hxn
  try simp (disch := first | omega | (simp only [PL]; omega)) only [PS, P1, P2, P3, P4, P5, P6, P7, P8, PA, PB, PC, Nat.reduceAdd, Nat.reduceSub, Nat.reduceMul, Nat.reduceLeDiff, Nat.reduceEqDiff, Nat.succ_ne_self, reduceCtorEq, Int.reduceToNat, Int.cast_ofNat_Int, Int.reduceEq, Int.reduceNe, Int.reduceLT, Int.reduceLE, hc, s1, t1]
  refine i_st ho 0 1 rfl rfl (by omega) (by simp) fun o1 hob1 _ => ?_
  have p1 : objAt (h.set b o1) ⟨b, 0, none⟩ [.int .u64 y] := hob1 h rfl
  have k1 : kb b h (h.set b o1) := fun x o' hx hne => by rw [Heap.set_ne hne]; exact hx
  generalize h.set b o1 = h1 at *
  have hc1 : h1.cell ⟨b, 0, none⟩ = some (.int .u64 y) := p1.rules.2.1 (by simp)
  try simp (disch := first | omega | (simp only [PL]; omega)) only [PS, P1, P2, P3, P4, P5, P6, P7, P8, PA, PB, PC, Nat.reduceAdd, Nat.reduceSub, Nat.reduceMul, Nat.reduceLeDiff, Nat.reduceEqDiff, Nat.succ_ne_self, reduceCtorEq, Int.reduceToNat, Int.cast_ofNat_Int, Int.reduceEq, Int.reduceNe, Int.reduceLT, Int.reduceLE, hc1, s2, t2]
  refine i_st p1 0 1 rfl rfl (by omega) (by simp) fun o2 hob2 _ => ?_
  have p2 : objAt (h1.set b o2) ⟨b, 0, none⟩ [.int .u64 z] := hob2 h1 rfl
  have k2 : kb b h1 (h1.set b o2) := fun x o' hx hne => by rw [Heap.set_ne hne]; exact hx
  generalize h1.set b o2 = h2 at *
  have hc2 : h2.cell ⟨b, 0, none⟩ = some (.int .u64 z) := p2.rules.2.1 (by simp)
  try simp (disch := first | omega | (simp only [PL]; omega)) only [PS, P1, P2, P3, P4, P5, P6, P7, P8, PA, PB, PC, Nat.reduceAdd, Nat.reduceSub, Nat.reduceMul, Nat.reduceLeDiff, Nat.reduceEqDiff, Nat.succ_ne_self, reduceCtorEq, Int.reduceToNat, Int.cast_ofNat_Int, Int.reduceEq, Int.reduceNe, Int.reduceLT, Int.reduceLE, hc2, s3, t3]
  refine i_st p2 0 1 rfl rfl (by omega) (by simp) fun o3 hob3 _ => ?_
  have p3 : objAt (h2.set b o3) ⟨b, 0, none⟩ [.int .u64 q] := hob3 h2 rfl
  have k3 : kb b h2 (h2.set b o3) := fun x o' hx hne => by rw [Heap.set_ne hne]; exact hx
  generalize h2.set b o3 = h3 at *
  have hc3 : h3.cell ⟨b, 0, none⟩ = some (.int .u64 q) := p3.rules.2.1 (by simp)
  try simp (disch := first | omega | (simp only [PL]; omega)) only [PS, P1, P2, P3, P4, P5, P6, P7, P8, PA, PB, PC, Nat.reduceAdd, Nat.reduceSub, Nat.reduceMul, Nat.reduceLeDiff, Nat.reduceEqDiff, Nat.succ_ne_self, reduceCtorEq, Int.reduceToNat, Int.cast_ofNat_Int, Int.reduceEq, Int.reduceNe, Int.reduceLT, Int.reduceLE, hc3]
  exact hK h3 ((k1.trans k2).trans k3) p3

def S100 (N : Num) (Γ : Ctx) : Spec := fun args h K => ∃ F v fl fs cl cs lt d, ∃ a b : Nat, args = [.agg #[.func (.func fl) #[] cl, .func (.func fs) #[] cs], .int .i64 a, .int .i64 b] ∧ So N Γ F v fl fs cl cs lt d.size ∧ Rw F h v d ∧ a ≤ b ∧ b ≤ d.size ∧
  ∀ h', Rw F h' v (breakPatterns d a b) → kv v h h' → K (.tuple #[]) h'
theorem size_breakStep {a L M idx : Nat} {st : UInt64 × Array Si} : (breakStep a L M st idx).2.size = st.2.size := by unfold breakStep; dsimp only; exact size_swp _ _ _
theorem F100_ok {N : Num} {Γ : Ctx} [GoodC Γ] (H113 : Sat S113 (Γ 113)) (H114 : Sat S114 (Γ 114)) : Sat (S100 N Γ) (SF N Γ F100) := by
  rintro _ h K ⟨F, v, fl, fs, cl, cs, lt, d, a, b, rfl, hS, hd, hab, hb, hK⟩
  have hsz := hS.size
  obtain ⟨l, rfl⟩ : ∃ l, b = a + l := ⟨b - a, by omega⟩
  refine i_fun rfl ?_
  simp only [F100, env0, List.map, List.length, List.replicate, List.cons_append, List.nil_append, Nat.reduceSub, Nat.reduceAdd]
  have hw1 : IntKind.i64.wrap (((a + l : Nat) : Int) - a) = (l : Int) := by rw [w64 (by omega) (by omega)]; omega
  try simp (disch := first | omega | (simp only [PL]; omega)) only [PS, P1, P2, P3, P4, P5, P6, P7, P8, PA, PB, PC, Nat.reduceAdd, Nat.reduceSub, Nat.reduceMul, Nat.reduceLeDiff, Nat.reduceEqDiff, Nat.succ_ne_self, reduceCtorEq, Int.reduceToNat, Int.cast_ofNat_Int, Int.reduceEq, Int.reduceNe, Int.reduceLT, Int.reduceLE, hw1]
  refine i_cond (fun c => ?_) (fun c => ?_)
  rotate_left
  · have hbp : breakPatterns d a (a + l) = d := by unfold breakPatterns; simp only [Nat.add_sub_cancel_left]; rw [if_neg (by omega)]
    rw [hbp] at hK
    try simp (disch := first | omega | (simp only [PL]; omega)) only [PS, P1, P2, P3, P4, P5, P6, P7, P8, PA, PB, PC, Nat.reduceAdd, Nat.reduceSub, Nat.reduceMul, Nat.reduceLeDiff, Nat.reduceEqDiff, Nat.succ_ne_self, reduceCtorEq, Int.reduceToNat, Int.cast_ofNat_Int, Int.reduceEq, Int.reduceNe, Int.reduceLT, Int.reduceLE]
    exact hK h hd kv.refl
  have h8 : 8 ≤ l := by omega
  rw [breakPatterns_eq d a l h8] at hK
  obtain ⟨M, hM⟩ : ∃ M : Nat, M = 1 <<< bitsLen l := ⟨_, rfl⟩
  have hM1 : 1 ≤ M := by rw [hM, Nat.one_shiftLeft]; exact Nat.two_pow_pos _
  have hM2 : M ≤ 2 * l := by rw [hM, Nat.one_shiftLeft]; exact two_pow_bitsLen_le (by omega)
  rw [← hM] at hK
  have hq : Int.tdiv (l : Int) 4 = ((l / 4 : Nat) : Int) := rfl
  have hwq : IntKind.i64.wrap ((l / 4 : Nat) : Int) = ((l / 4 : Nat) : Int) := w64 (by omega) (by omega)
  obtain ⟨i0, hi0⟩ : ∃ i, i = a + l / 4 * 2 - 1 := ⟨_, rfl⟩
  rw [← hi0] at hK
  have hwi : IntKind.i64.wrap (IntKind.i64.wrap ((a : Int) + IntKind.i64.wrap (((l / 4 : Nat) : Int) * 2)) - 1) = (i0 : Int) := by rw [w64 (n := ((l / 4 : Nat) : Int) * 2) (by omega) (by omega), w64 (n := (a : Int) + ((l / 4 : Nat) : Int) * 2) (by omega) (by omega), w64 (by omega) (by omega)]; omega
  have hwe : IntKind.i64.wrap (IntKind.i64.wrap ((a : Int) + IntKind.i64.wrap (((l / 4 : Nat) : Int) * 2)) + 1) = ((i0 + 2 : Nat) : Int) := by rw [w64 (n := ((l / 4 : Nat) : Int) * 2) (by omega) (by omega), w64 (n := (a : Int) + ((l / 4 : Nat) : Int) * 2) (by omega) (by omega), w64 (by omega) (by omega)]; omega
  have hwu : IntKind.u64.wrap (l : Int) = (l : Int) := wrap_u64 _ (by omega)
  try simp (disch := first | omega | (simp only [PL]; omega)) only [PS, P1, P2, P3, P4, P5, P6, P7, P8, PA, PB, PC, Nat.reduceAdd, Nat.reduceSub, Nat.reduceMul, Nat.reduceLeDiff, Nat.reduceEqDiff, Nat.succ_ne_self, reduceCtorEq, Int.reduceToNat, Int.cast_ofNat_Int, Int.reduceEq, Int.reduceNe, Int.reduceLT, Int.reduceLE, hwu]
  refine i_newO fun b5 h1 hle1 hb5 ho => ?_
  have hF5 : F b5 = none := le_none hd.1 b5 hb5
  have hv5 : blkOf v ≠ some b5 := fun e => hd.slb.1.mem e hb5
  try simp (disch := first | omega | (simp only [PL]; omega)) only [PS, P1, P2, P3, P4, P5, P6, P7, P8, PA, PB, PC, Nat.reduceAdd, Nat.reduceSub, Nat.reduceMul, Nat.reduceLeDiff, Nat.reduceEqDiff, Nat.succ_ne_self, reduceCtorEq, Int.reduceToNat, Int.cast_ofNat_Int, Int.reduceEq, Int.reduceNe, Int.reduceLT, Int.reduceLE]
  refine i_st (ho.le (fr_le _ _)) 0 1 rfl rfl (by omega) (by simp [Value.cells]) fun o hob _ => ?_
  have hr0 : (UInt64.ofNat l).toNat = l := by simp; omega
  have ho2 : objAt (h1.set b5 o) ⟨b5, 0, none⟩ [.int .u64 ((UInt64.ofNat l).toNat : Nat)] := by rw [hr0]; exact hob h1 rfl
  have hle2 : Heap.le h (h1.set b5 o) := but.le (b := b5) hle1 hb5 fun x hx => Heap.set_ne hx
  generalize h1.set b5 o = h2 at *
  try simp (disch := first | omega | (simp only [PL]; omega)) only [PS, P1, P2, P3, P4, P5, P6, P7, P8, PA, PB, PC, Nat.reduceAdd, Nat.reduceSub, Nat.reduceMul, Nat.reduceLeDiff, Nat.reduceEqDiff, Nat.succ_ne_self, reduceCtorEq, Int.reduceToNat, Int.cast_ofNat_Int, Int.reduceEq, Int.reduceNe, Int.reduceLT, Int.reduceLE]
  refine i_call H113 ⟨l, rfl, by omega, ?_⟩
  rw [← hM]
  try simp (disch := first | omega | (simp only [PL]; omega)) only [PS, P1, P2, P3, P4, P5, P6, P7, P8, PA, PB, PC, Nat.reduceAdd, Nat.reduceSub, Nat.reduceMul, Nat.reduceLeDiff, Nat.reduceEqDiff, Nat.succ_ne_self, reduceCtorEq, Int.reduceToNat, Int.cast_ofNat_Int, Int.reduceEq, Int.reduceNe, Int.reduceLT, Int.reduceLE, hq, hwq, hwi]
  refine i_loop (fun x : Nat × UInt64 × Array Si => [some (.agg #[.func (.func fl) #[] cl, .func (.func fs) #[] cs]), some (.int .i64 a), some (.int .i64 (a + l : Nat)), some (.agg #[.func (.func fl) #[] cl, .func (.func fs) #[] cs]), some (.int .i64 l), some (.pointer (some ⟨b5, 0, none⟩)), some (.int .u64 M), some (.int .i64 ((i0 + x.1 : Nat) : Int)), none, none, none, none, none, none, none])
    (fun x H => x.1 ≤ 3 ∧ x.2.2.size = d.size ∧ Rw F H v x.2.2 ∧ kv v h H ∧ objAt H ⟨b5, 0, none⟩ [.int .u64 (x.2.1.toNat : Nat)] ∧ bpRest a l M i0 (3 - x.1) x.1 (x.2.1, x.2.2) = bpRest a l M i0 3 0 (UInt64.ofNat l, d)) (fun x => 3 - x.1) (0, UInt64.ofNat l, d) (by dsimp only; try simp only [Pe, and_true, true_and, and_self]; simp [hi0]) ⟨by dsimp only; omega, rfl, hd.le hle2, kv.of_le hle2, ho2, rfl⟩ ?_
  rintro ⟨t, r, dk⟩ H ⟨ht, hsk, hR, hkv, hoH, hP⟩
  dsimp only at ht hsk hR hoH hP ⊢
  try simp (disch := first | omega | (simp only [PL]; omega)) only [PS, P1, P2, P3, P4, P5, P6, P7, P8, PA, PB, PC, Nat.reduceAdd, Nat.reduceSub, Nat.reduceMul, Nat.reduceLeDiff, Nat.reduceEqDiff, Nat.succ_ne_self, reduceCtorEq, Int.reduceToNat, Int.cast_ofNat_Int, Int.reduceEq, Int.reduceNe, Int.reduceLT, Int.reduceLE, hq, hwq, hwe]
  refine i_cond (fun c2 => ?_) (fun c2 => ?_)
  rotate_left
  · have : t = 3 := by omega
    subst this
    rw [show 3 - 3 = 0 from rfl, bpRest] at hP
    rw [← hP] at hK
    try simp (disch := first | omega | (simp only [PL]; omega)) only [PS, P1, P2, P3, P4, P5, P6, P7, P8, PA, PB, PC, Nat.reduceAdd, Nat.reduceSub, Nat.reduceMul, Nat.reduceLeDiff, Nat.reduceEqDiff, Nat.succ_ne_self, reduceCtorEq, Int.reduceToNat, Int.cast_ofNat_Int, Int.reduceEq, Int.reduceNe, Int.reduceLT, Int.reduceLE]
    exact hK H hR hkv
  have ht2 : t < 3 := by omega
  have hrl := r.toNat_lt
  try simp (disch := first | omega | (simp only [PL]; omega)) only [PS, P1, P2, P3, P4, P5, P6, P7, P8, PA, PB, PC, Nat.reduceAdd, Nat.reduceSub, Nat.reduceMul, Nat.reduceLeDiff, Nat.reduceEqDiff, Nat.succ_ne_self, reduceCtorEq, Int.reduceToNat, Int.cast_ofNat_Int, Int.reduceEq, Int.reduceNe, Int.reduceLT, Int.reduceLE]
  refine i_call H114 ⟨b5, r.toNat, rfl, hoH, by omega, fun H3 hk3 ho3 => ?_⟩
  rw [← xorNext_toNat] at ho3 ⊢
  have hnl := (xorNext r).toNat_lt
  have hM64 : IntKind.u64.wrap ((M : Int) - 1) = ((M - 1 : Nat) : Int) := by rw [show (M : Int) - 1 = ((M - 1 : Nat) : Int) by omega, wrap_u64 _ (by omega)]
  have han := and_u64 (xorNext r).toNat (M - 1) (by omega) (by omega)
  have hal : (xorNext r).toNat &&& (M - 1) ≤ M - 1 := Nat.and_le_right
  obtain ⟨e, he⟩ : ∃ e, e = (xorNext r).toNat &&& (M - 1) := ⟨_, rfl⟩
  rw [← he] at han hal
  have hwe2 : IntKind.i64.wrap (e : Int) = (e : Int) := w64 (by omega) (by omega)
  have hR3 := hR.kb hF5 hv5 hk3
  have hkv3 : kv v h H3 := fun x o hx hne => hk3 x o (hkv x o hx hne) (by rintro rfl; rw [hb5] at hx; cases hx)
  try simp (disch := first | omega | (simp only [PL]; omega)) only [PS, P1, P2, P3, P4, P5, P6, P7, P8, PA, PB, PC, Nat.reduceAdd, Nat.reduceSub, Nat.reduceMul, Nat.reduceLeDiff, Nat.reduceEqDiff, Nat.succ_ne_self, reduceCtorEq, Int.reduceToNat, Int.cast_ofNat_Int, Int.reduceEq, Int.reduceNe, Int.reduceLT, Int.reduceLE, hM64, han, hwe2]
  obtain ⟨ot, hot⟩ : ∃ ot, ot = if e ≥ l then e - l else e := ⟨_, rfl⟩
  have hotl : ot < l := by rw [hot]; split <;> omega
  have hstep := bp_step a l M i0 t r dk ot ht2 (by rw [← he]; exact hot.symm)
  refine i_meet_cond (fun env G => G = H3 ∧ env = [some (.agg #[.func (.func fl) #[] cl, .func (.func fs) #[] cs]), some (.int .i64 a), some (.int .i64 (a + l : Nat)), some (.agg #[.func (.func fl) #[] cl, .func (.func fs) #[] cs]), some (.int .i64 l), some (.pointer (some ⟨b5, 0, none⟩)), some (.int .u64 M), some (.int .i64 ((i0 + t : Nat) : Int)), some (.int .i64 ot), none, none, none, none, none, none]) ?_ ?_
  rotate_left
  · refine i_cond (fun c3 => ?_) (fun c3 => ?_)
    · have hw9 : IntKind.i64.wrap ((e : Int) - l) = (ot : Int) := by rw [w64 (by omega) (by omega), hot, if_pos (by omega)]; omega
      try simp (disch := first | omega | (simp only [PL]; omega)) only [PS, P1, P2, P3, P4, P5, P6, P7, P8, PA, PB, PC, Nat.reduceAdd, Nat.reduceSub, Nat.reduceMul, Nat.reduceLeDiff, Nat.reduceEqDiff, Nat.succ_ne_self, reduceCtorEq, Int.reduceToNat, Int.cast_ofNat_Int, Int.reduceEq, Int.reduceNe, Int.reduceLT, Int.reduceLE, hw9]
      exact k_meet _ (by try simp only [Pe, and_true, true_and, and_self]) ⟨rfl, rfl⟩
    · have : e = ot := by rw [hot, if_neg (by omega)]
      rw [this]
      try simp (disch := first | omega | (simp only [PL]; omega)) only [PS, P1, P2, P3, P4, P5, P6, P7, P8, PA, PB, PC, Nat.reduceAdd, Nat.reduceSub, Nat.reduceMul, Nat.reduceLeDiff, Nat.reduceEqDiff, Nat.succ_ne_self, reduceCtorEq, Int.reduceToNat, Int.cast_ofNat_Int, Int.reduceEq, Int.reduceNe, Int.reduceLT, Int.reduceLE]
      exact k_meet _ (by try simp only [Pe, and_true, true_and, and_self]) ⟨rfl, rfl⟩
  rintro env G ⟨rfl, rfl⟩
  have hwao : IntKind.i64.wrap ((a : Int) + ot) = ((a + ot : Nat) : Int) := by rw [w64 (by omega) (by omega)]; omega
  have hwt : IntKind.i64.wrap (((i0 + t : Nat) : Int) + 1) = ((i0 + (t + 1) : Nat) : Int) := by rw [w64 (by omega) (by omega)]; omega
  try simp (disch := first | omega | (simp only [PL]; omega)) only [PS, P1, P2, P3, P4, P5, P6, P7, P8, PA, PB, PC, Nat.reduceAdd, Nat.reduceSub, Nat.reduceMul, Nat.reduceLeDiff, Nat.reduceEqDiff, Nat.succ_ne_self, reduceCtorEq, Int.reduceToNat, Int.cast_ofNat_Int, Int.reduceEq, Int.reduceNe, Int.reduceLT, Int.reduceLE, hwao]
  refine hS.swap G dk (i0 + t) (a + ot) _ hsk hR3 (by omega) (by omega) fun H4 hR4 hk4 => ?_
  try simp (disch := first | omega | (simp only [PL]; omega)) only [PS, P1, P2, P3, P4, P5, P6, P7, P8, PA, PB, PC, Nat.reduceAdd, Nat.reduceSub, Nat.reduceMul, Nat.reduceLeDiff, Nat.reduceEqDiff, Nat.succ_ne_self, reduceCtorEq, Int.reduceToNat, Int.cast_ofNat_Int, Int.reduceEq, Int.reduceNe, Int.reduceLT, Int.reduceLE, hwt]
  exact k_loop (t + 1, xorNext r, swp dk (i0 + t) (a + ot)) (by dsimp only; omega) (by dsimp only; try simp only [Pe, and_true, true_and, and_self]) ⟨by dsimp only; omega, by dsimp only; rw [size_swp]; exact hsk, hR4, hkv3.trans hk4, objAt_kept ho3 fun o h5 => hk4 _ _ h5 hv5, by rw [← hP]; exact hstep.symm⟩
end Go.Cw
