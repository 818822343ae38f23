/- Part 4 of the proof of TopInside: a small language for the program's functions, its soundness, and what the functions do. No conditions beyond the theorems' own. -/
import Derived.Test.YthhepmakjimhlabCw3
set_option linter.unusedSimpArgs false
set_option linter.unusedVariables false
namespace Go.Cw
open Go

/-- two tracks, held apart, beside what stays -/
structure K2 (h H gt gm F : Heap) : Prop where
  hF : Heap.le h F
  lF : Heap.le F H
  lt : Heap.le gt H
  lm : Heap.le gm H
  dtm : disj gt gm
  dtF : disj gt F
  dmF : disj gm F
theorem disj.sym {a b : Heap} (h : disj a b) : disj b a := by
  intro x hx
  cases e : a x with
  | none => rfl
  | some o => exact absurd (h x (by rw [e]; simp)) hx
theorem K2.le {h H gt gm F : Heap} (k : K2 h H gt gm F) : Heap.le h H := k.hF.trans k.lF
theorem K2.stepT {h H gt gm F gt' H' : Heap} (k : K2 h H gt gm F) (s : Step gt H gt' H') : K2 h H' gt' gm F :=
  let a := s.keep k.lm k.dtm.sym; let b := s.keep k.lF k.dtF.sym
  ⟨k.hF, b.1, s.le, a.1, a.2.sym, b.2.sym, k.dmF⟩
theorem K2.stepM {h H gt gm F gm' H' : Heap} (k : K2 h H gt gm F) (s : Step gm H gm' H') : K2 h H' gt gm' F :=
  let a := s.keep k.lt k.dtm; let b := s.keep k.lF k.dmF.sym
  ⟨k.hF, b.1, a.1, s.le, a.2, k.dtF, b.2.sym⟩
theorem K2.more {h H gt gm F H' : Heap} (k : K2 h H gt gm F) (hl : Heap.le H H') : K2 h H' gt gm F :=
  ⟨k.hF, k.lF.trans hl, k.lt.trans hl, k.lm.trans hl, k.dtm, k.dtF, k.dmF⟩
theorem disj_fr {a F H H' : Heap} (ha : Heap.le a H) (hd : disj a F) : disj a (join F (fr H H')) := by
  intro x hx
  cases e : a x with
  | none => exact absurd e hx
  | some o => exact join_none (hd x hx) (fr_none (ha x o e))
theorem K2.freeze {h H gt gm F H' : Heap} (k : K2 h H gt gm F) (hl : Heap.le H H') : K2 h H' gt gm (join F (fr H H')) :=
  ⟨k.hF.trans (join_l _ _), join_le (k.lF.trans hl) (fr_le _ _), k.lt.trans hl, k.lm.trans hl, k.dtm, disj_fr k.lt k.dtF, disj_fr k.lm k.dmF⟩
theorem K2.weak {h H gt gm F F' : Heap} (k : K2 h H gt gm F') (h1 : Heap.le h F) (h2 : Heap.le F F') : K2 h H gt gm F :=
  ⟨h1, h2.trans k.lF, k.lt, k.lm, k.dtm, fun x hx => le_none h2 x (k.dtF x hx), fun x hx => le_none h2 x (k.dmF x hx)⟩

def light2 (L : List (List Si)) : Prop := light L ∧ ∀ l ∈ L, ∀ s ∈ l, s.tag.length ≤ 20
def S12t : Spec := fun args h K => ∃ v L, args = [v] ∧ SS h v L ∧ ∀ bb : Bool, (bb = true → light2 L) → K (.bool bb) h
theorem F12t_ok {N : Num} {Γ : Ctx} [GoodC Γ] : Sat S12t (SF N Γ F12) := by
  rintro _ h K ⟨v, L, rfl, ⟨vs, hv, hvl, hr⟩, hK⟩
  refine i_fun rfl ?_
  simp only [F12, env0, List.map, List.length, List.replicate, List.cons_append, List.nil_append, Nat.reduceSub, Nat.reduceAdd]
  have R := hv.rules1 id (fun _ => rfl) undef
  rw [hvl] at R
  try simp (disch := first | omega | (simp only [PL]; omega)) only [PS, P1, P2, P3, P4, P5, P6, P7, P8, PA, PB, PC, Nat.reduceAdd, Nat.reduceSub, Nat.reduceMul, Nat.reduceLeDiff, Nat.reduceEqDiff, Nat.succ_ne_self, reduceCtorEq, Int.reduceToNat, Int.cast_ofNat_Int, Int.reduceEq, Int.reduceNe, Int.reduceLT, Int.reduceLE, R]
  refine i_cond (fun c1 => ?_) (fun c1 => ?_)
  · try simp (disch := first | omega | (simp only [PL]; omega)) only [PS, P1, P2, P3, P4, P5, P6, P7, P8, PA, PB, PC, Nat.reduceAdd, Nat.reduceSub, Nat.reduceMul, Nat.reduceLeDiff, Nat.reduceEqDiff, Nat.succ_ne_self, reduceCtorEq, Int.reduceToNat, Int.cast_ofNat_Int, Int.reduceEq, Int.reduceNe, Int.reduceLT, Int.reduceLE]
    exact hK false (by simp)
  · try simp (disch := first | omega | (simp only [PL]; omega)) only [PS, P1, P2, P3, P4, P5, P6, P7, P8, PA, PB, PC, Nat.reduceAdd, Nat.reduceSub, Nat.reduceMul, Nat.reduceLeDiff, Nat.reduceEqDiff, Nat.succ_ne_self, reduceCtorEq, Int.reduceToNat, Int.cast_ofNat_Int, Int.reduceEq, Int.reduceNe, Int.reduceLT, Int.reduceLE]
    refine i_loop (fun i : Nat => [some v, none, some (.int .i64 i), none, none, none, none, none, none]) (fun i h1 => h1 = h ∧ i ≤ L.length ∧ ∀ l ∈ L.take i, l.length ≤ 25 ∧ ∀ s ∈ l, s.tag.length ≤ 20) (fun i => L.length - i) 0 (by try simp only [Pe, and_true, true_and, and_self]; rfl) ⟨rfl, by omega, by simp⟩ ?_
    rintro i h1 ⟨rfl, hi, hd⟩
    try simp (disch := first | omega | (simp only [PL]; omega)) only [PS, P1, P2, P3, P4, P5, P6, P7, P8, PA, PB, PC, Nat.reduceAdd, Nat.reduceSub, Nat.reduceMul, Nat.reduceLeDiff, Nat.reduceEqDiff, Nat.succ_ne_self, reduceCtorEq, Int.reduceToNat, Int.cast_ofNat_Int, Int.reduceEq, Int.reduceNe, Int.reduceLT, Int.reduceLE, R]
    refine i_cond (fun c2 => ?_) (fun c2 => ?_)
    · have hi2 : i < L.length := by omega
      have Ri := (hr i hi2).rules 4 Si.enc_len default
      try simp (disch := first | omega | (simp only [PL]; omega)) only [PS, P1, P2, P3, P4, P5, P6, P7, P8, PA, PB, PC, Nat.reduceAdd, Nat.reduceSub, Nat.reduceMul, Nat.reduceLeDiff, Nat.reduceEqDiff, Nat.succ_ne_self, reduceCtorEq, Int.reduceToNat, Int.cast_ofNat_Int, Int.reduceEq, Int.reduceNe, Int.reduceLT, Int.reduceLE, R, id, Ri]
      refine i_cond (fun c3 => ?_) (fun c3 => ?_)
      · try simp (disch := first | omega | (simp only [PL]; omega)) only [PS, P1, P2, P3, P4, P5, P6, P7, P8, PA, PB, PC, Nat.reduceAdd, Nat.reduceSub, Nat.reduceMul, Nat.reduceLeDiff, Nat.reduceEqDiff, Nat.succ_ne_self, reduceCtorEq, Int.reduceToNat, Int.cast_ofNat_Int, Int.reduceEq, Int.reduceNe, Int.reduceLT, Int.reduceLE]
        exact hK false (by simp)
      · try simp (disch := first | omega | (simp only [PL]; omega)) only [PS, P1, P2, P3, P4, P5, P6, P7, P8, PA, PB, PC, Nat.reduceAdd, Nat.reduceSub, Nat.reduceMul, Nat.reduceLeDiff, Nat.reduceEqDiff, Nat.succ_ne_self, reduceCtorEq, Int.reduceToNat, Int.cast_ofNat_Int, Int.reduceEq, Int.reduceNe, Int.reduceLT, Int.reduceLE]
        refine i_loop (fun k : Nat => [some v, none, some (.int .i64 i), some (.int .i64 k), none, none, none, none, none]) (fun k h2 => h2 = h1 ∧ k ≤ (L.getD i []).length ∧ ∀ s ∈ (L.getD i []).take k, s.tag.length ≤ 20) (fun k => (L.getD i []).length - k) 0 (by try simp only [Pe, and_true, true_and, and_self]; rfl) ⟨rfl, by omega, by simp⟩ ?_
        rintro k h2 ⟨rfl, hk, hkt⟩
        try simp (disch := first | omega | (simp only [PL]; omega)) only [PS, P1, P2, P3, P4, P5, P6, P7, P8, PA, PB, PC, Nat.reduceAdd, Nat.reduceSub, Nat.reduceMul, Nat.reduceLeDiff, Nat.reduceEqDiff, Nat.succ_ne_self, reduceCtorEq, Int.reduceToNat, Int.cast_ofNat_Int, Int.reduceEq, Int.reduceNe, Int.reduceLT, Int.reduceLE, R, id, Ri]
        refine i_cond (fun c4 => ?_) (fun c4 => ?_)
        · have hk2 : k < (L.getD i []).length := by omega
          try simp (disch := first | omega | (simp only [PL]; omega)) only [PS, P1, P2, P3, P4, P5, P6, P7, P8, PA, PB, PC, Nat.reduceAdd, Nat.reduceSub, Nat.reduceMul, Nat.reduceLeDiff, Nat.reduceEqDiff, Nat.succ_ne_self, reduceCtorEq, Int.reduceToNat, Int.cast_ofNat_Int, Int.reduceEq, Int.reduceNe, Int.reduceLT, Int.reduceLE, R, id, Ri, Si.enc]
          refine i_cond (fun c5 => ?_) (fun c5 => ?_)
          · try simp (disch := first | omega | (simp only [PL]; omega)) only [PS, P1, P2, P3, P4, P5, P6, P7, P8, PA, PB, PC, Nat.reduceAdd, Nat.reduceSub, Nat.reduceMul, Nat.reduceLeDiff, Nat.reduceEqDiff, Nat.succ_ne_self, reduceCtorEq, Int.reduceToNat, Int.cast_ofNat_Int, Int.reduceEq, Int.reduceNe, Int.reduceLT, Int.reduceLE]
            exact hK false (by simp)
          · try simp (disch := first | omega | (simp only [PL]; omega)) only [PS, P1, P2, P3, P4, P5, P6, P7, P8, PA, PB, PC, Nat.reduceAdd, Nat.reduceSub, Nat.reduceMul, Nat.reduceLeDiff, Nat.reduceEqDiff, Nat.succ_ne_self, reduceCtorEq, Int.reduceToNat, Int.cast_ofNat_Int, Int.reduceEq, Int.reduceNe, Int.reduceLT, Int.reduceLE]
            refine k_loop (k + 1) (by omega) (by try simp only [Pe, and_true, true_and, and_self]) ⟨rfl, by omega, fun s hs => ?_⟩
            rw [take_succ_d default hk2, List.mem_append, List.mem_singleton] at hs
            rcases hs with hs | rfl
            · exact hkt s hs
            · omega
        · try simp (disch := first | omega | (simp only [PL]; omega)) only [PS, P1, P2, P3, P4, P5, P6, P7, P8, PA, PB, PC, Nat.reduceAdd, Nat.reduceSub, Nat.reduceMul, Nat.reduceLeDiff, Nat.reduceEqDiff, Nat.succ_ne_self, reduceCtorEq, Int.reduceToNat, Int.cast_ofNat_Int, Int.reduceEq, Int.reduceNe, Int.reduceLT, Int.reduceLE]
          refine k_loop (i + 1) (by omega) (by try simp only [Pe, and_true, true_and, and_self]) ⟨rfl, by omega, ?_⟩
          intro l hl
          rw [take_succ_d [] hi2, List.mem_append, List.mem_singleton] at hl
          rcases hl with hl | rfl
          · exact hd l hl
          · refine ⟨by omega, fun s hs => hkt s ?_⟩
            rw [List.take_of_length_le (by omega)]; exact hs
    · try simp (disch := first | omega | (simp only [PL]; omega)) only [PS, P1, P2, P3, P4, P5, P6, P7, P8, PA, PB, PC, Nat.reduceAdd, Nat.reduceSub, Nat.reduceMul, Nat.reduceLeDiff, Nat.reduceEqDiff, Nat.succ_ne_self, reduceCtorEq, Int.reduceToNat, Int.cast_ofNat_Int, Int.reduceEq, Int.reduceNe, Int.reduceLT, Int.reduceLE]
      have : i = L.length := by omega
      subst this
      rw [List.take_length] at hd
      exact hK true (fun _ => ⟨⟨by omega, fun l hl => (hd l hl).1⟩, fun l hl => (hd l hl).2⟩)
end Go.Cw
namespace Go.Cw
open Go

/-- one's own slice but for its last element -/
theorem OwnS.lsl0 {α : Type} {enc : α → List Value} {sz : Nat} (he : ∀ x, (enc x).length = sz) {h0 h : Heap} {v : Value} {l : List α} {z : α} (ho : OwnS enc sz h0 h v (l ++ [z])) :
    ∃ v', (∀ k k', o3V (.lsl sz) (.v v) (.v (.int k 0)) (.v (.int k' (l.length : Int))) = some (.v v')) ∧ (∀ n, elt v' n = elt v n) ∧
      ∀ h1 h' (l' : List α), l'.length = l.length → OwnS enc sz h1 h' v (l' ++ [z]) → Sl enc h' v' l' := by
  obtain ⟨_, a, cap, rfl, h2, h3, h4⟩ := ho
  rcases h4 with ⟨_, e, _⟩ | ⟨b, c, t, rfl, hb0, hb, hcs, hc⟩
  · simp at e
  simp only [List.length_append, List.length_singleton] at h2
  refine ⟨.slice (some ⟨b, 0, none⟩) l.length cap, fun k k' => ?_, fun n => rfl, fun h1 h' l' hl ho' => ?_⟩
  · simp only [o3V]
    rw [if_pos ⟨by omega, by omega, by omega⟩, if_neg (by simp; omega)]
    simp [addr_zero]
  · obtain ⟨a', cap', e1, _, hr⟩ := ho'.sl he
    simp only [Value.slice.injEq] at e1
    obtain ⟨rfl, _, rfl⟩ := e1
    refine ⟨_, cap, by rw [hl], by omega, ?_⟩
    rcases hr with e | ⟨g, hg, hrow⟩
    · simp at e
    · refine .inr ⟨g, hg, ?_⟩
      obtain ⟨r1, c', t', fz, r2, r3, r4⟩ := hrow
      rw [List.flatMap_append, List.length_append] at r3
      refine ⟨r1, c', t', fz, r2, by omega, fun i hi => ?_⟩
      rw [r4 i (by rw [List.flatMap_append, List.length_append]; omega), List.flatMap_append, List.getElem?_append_left hi]

def goodE (L : List (List Si)) : List (List Si) := L.filter fun l => decide (∀ s ∈ l, ¬ s.bad)
theorem goodE_take {L : List (List Si)} {i : Nat} (hi : i < L.length) : goodE (L.take (i + 1)) = goodE (L.take i) ++ if (∀ s ∈ L.getD i [], ¬ s.bad) then [L.getD i []] else [] := by
  rw [take_succ_d [] hi]
  unfold goodE
  rw [List.filter_append]
  congr 1
  by_cases h : ∀ s ∈ L.getD i [], ¬ s.bad
  · rw [if_pos h, List.filter_cons_of_pos (by simpa using h)]; rfl
  · rw [if_neg h, List.filter_cons_of_neg (by simpa using h)]; rfl

def isGood (l : List Si) : Prop := ∀ s ∈ l, ¬ s.bad
instance (l : List Si) : Decidable (isGood l) := by unfold isGood; infer_instance
def addE (E : List (List Si)) (l : List Si) : List (List Si) := E ++ if isGood l then [l] else []
def errE (l : List Si) : Nat := if isGood l then 0 else 1
theorem S45_all {h : Heap} {K : Value → Heap → Prop} {g : Heap} {b : Nat} {v : Value} {window need : Nat} {E : List (List Si)} {l : List Si} (hs : Sl Si.enc h v l) (hT : RT g b window need E) (hg : Heap.le g h) (h1 : E.length < 1000) (h2 : l.length ≤ 1000)
    (hK : ∀ g' h', Step g h g' h' → RT g' b window need (addE E l) → K (.int .i64 (errE l : Nat)) h') : S45 [.pointer (some ⟨b, 0, none⟩), v] h K := by
  unfold addE errE at hK
  refine ⟨g, b, v, window, need, E, l, rfl, hs, hT, hg, h1, h2, fun hb => ?_, fun hb g' h' hS hT' => ?_⟩
  · have : ¬ isGood l := by rintro hgd; obtain ⟨s, hs, hb⟩ := hb; exact hgd s hs hb
    rw [if_neg this, if_neg this, List.append_nil] at hK
    exact hK g h (Step.refl hg) hT
  · have : isGood l := hb
    rw [if_pos this, if_pos this] at hK
    exact hK g' h' hS hT'
theorem S29_all {N : Num} {h : Heap} {K : Value → Heap → Prop} {g : Heap} {b : Nat} {v : Value} {window need : Nat} {E : List (List Si)} {l : List Si} (hs : Sl Si.enc h v l) (hT : TrO g b window need E) (hg : Heap.le g h) (hok : TrOk window need E) (h1 : E.length < 100000) (h2 : l.length ≤ 1000000)
    (hK : ∀ g' h', Step g h g' h' → TrO g' b window need (addE E l) → K (errV N (errE l)) h') : S29 N [.pointer (some ⟨b, 0, none⟩), v] h K := by
  unfold addE errE at hK
  refine ⟨b, v, l, g, window, need, E, rfl, hs, hT, hg, hok, h1, h2, fun hb h' hl => ?_, fun hb h' g' hS hT' => ?_⟩
  · have : ¬ isGood l := by rintro hgd; obtain ⟨s, hs, hb⟩ := hb; exact hgd s hs hb
    rw [if_neg this, if_neg this, List.append_nil] at hK
    exact hK g h' (Step.more hg hl) hT
  · have : isGood l := hb
    rw [if_pos this, if_pos this] at hK
    exact hK g' h' hS hT'

def S13 (N : Num) : Spec := fun args h K => ∃ w n v L, args = [.int .i64 w, .int .i64 n, v] ∧ SS h v L ∧ light2 L ∧
  (newBad w n → ∀ h', Heap.le h h' → K (.tuple #[.pointer none, .pointer none, .bool true, .bool true]) h') ∧
  (¬ newBad w n → ∀ bt bm H gt gm F, K2 h H gt gm F → TrO gt bt w.toNat n.toNat (goodE L) → RT gm bm w.toNat n.toNat (goodE L) → K (.tuple #[.pointer (some ⟨bt, 0, none⟩), .pointer (some ⟨bm, 0, none⟩), .bool false, .bool true]) H)
theorem F13_ok {N : Num} {Γ : Ctx} [GoodC Γ] (H28 : Sat (S28 N) (Γ 28)) (H19 : Sat (S19 N) (Γ 19)) (H51 : Sat S51 (Γ 51)) (H45 : Sat S45 (Γ 45)) (H29 : Sat (S29 N) (Γ 29)) (H31 : Sat S31 (Γ 31)) : Sat (S13 N) (SF N Γ F13) := by
  rintro _ h K ⟨w, n, v, L, rfl, hL, hli, hK1, hK2⟩
  refine i_fun rfl ?_
  simp only [F13, env0, List.map, List.length, List.replicate, List.cons_append, List.nil_append, Nat.reduceSub, Nat.reduceAdd]
  obtain ⟨vs, hv, hvl, hr⟩ := hL
  have R := hv.rules1 id (fun _ => rfl) undef
  rw [hvl] at R
  try simp (disch := first | omega | (simp only [PL]; omega)) only [PS, P1, P2, P3, P4, P5, P6, P7, P8, PA, PB, PC, Nat.reduceAdd, Nat.reduceSub, Nat.reduceMul, Nat.reduceLeDiff, Nat.reduceEqDiff, Nat.succ_ne_self, reduceCtorEq, Int.reduceToNat, Int.cast_ofNat_Int, Int.reduceEq, Int.reduceNe, Int.reduceLT, Int.reduceLE]
  refine i_call H28 ⟨w, n, rfl, fun hb h1 hle1 => ?_, fun hb bt h1 hbt hle1 hT => ?_⟩
  · have hb' := hb
    simp only [newBad] at hb'
    try simp (disch := first | omega | (simp only [PL]; omega)) only [PS, P1, P2, P3, P4, P5, P6, P7, P8, PA, PB, PC, Nat.reduceAdd, Nat.reduceSub, Nat.reduceMul, Nat.reduceLeDiff, Nat.reduceEqDiff, Nat.succ_ne_self, reduceCtorEq, Int.reduceToNat, Int.cast_ofNat_Int, Int.reduceEq, Int.reduceNe, Int.reduceLT, Int.reduceLE]
    refine i_cond (fun c1 => ?_) (fun c1 => by exfalso; omega)
    try simp (disch := first | omega | (simp only [PL]; omega)) only [PS, P1, P2, P3, P4, P5, P6, P7, P8, PA, PB, PC, Nat.reduceAdd, Nat.reduceSub, Nat.reduceMul, Nat.reduceLeDiff, Nat.reduceEqDiff, Nat.succ_ne_self, reduceCtorEq, Int.reduceToNat, Int.cast_ofNat_Int, Int.reduceEq, Int.reduceNe, Int.reduceLT, Int.reduceLE]
    refine i_call H19 ⟨1, 1, rfl, ?_⟩
    try simp (disch := first | omega | (simp only [PL]; omega)) only [PS, P1, P2, P3, P4, P5, P6, P7, P8, PA, PB, PC, Nat.reduceAdd, Nat.reduceSub, Nat.reduceMul, Nat.reduceLeDiff, Nat.reduceEqDiff, Nat.succ_ne_self, reduceCtorEq, Int.reduceToNat, Int.cast_ofNat_Int, Int.reduceEq, Int.reduceNe, Int.reduceLT, Int.reduceLE]
    exact hK1 hb h1 hle1
  have hb' := hb
  simp only [newBad] at hb'
  obtain ⟨window, rfl⟩ : ∃ k : Nat, w = k := ⟨w.toNat, by omega⟩
  obtain ⟨need, rfl⟩ : ∃ k : Nat, n = k := ⟨n.toNat, by omega⟩
  have hK2' := hK2 hb
  rw [Int.toNat_natCast, Int.toNat_natCast] at hK2' hT
  clear hK1 hK2
  try simp (disch := first | omega | (simp only [PL]; omega)) only [PS, P1, P2, P3, P4, P5, P6, P7, P8, PA, PB, PC, Nat.reduceAdd, Nat.reduceSub, Nat.reduceMul, Nat.reduceLeDiff, Nat.reduceEqDiff, Nat.succ_ne_self, reduceCtorEq, Int.reduceToNat, Int.cast_ofNat_Int, Int.reduceEq, Int.reduceNe, Int.reduceLT, Int.reduceLE]
  refine i_cond (fun c1 => by exfalso; omega) (fun c1 => ?_)
  try simp (disch := first | omega | (simp only [PL]; omega)) only [PS, P1, P2, P3, P4, P5, P6, P7, P8, PA, PB, PC, Nat.reduceAdd, Nat.reduceSub, Nat.reduceMul, Nat.reduceLeDiff, Nat.reduceEqDiff, Nat.succ_ne_self, reduceCtorEq, Int.reduceToNat, Int.cast_ofNat_Int, Int.reduceEq, Int.reduceNe, Int.reduceLT, Int.reduceLE]
  refine i_call H51 ⟨window, need, rfl, fun bm h2 hbm hle2 hM => ?_⟩
  try simp (disch := first | omega | (simp only [PL]; omega)) only [PS, P1, P2, P3, P4, P5, P6, P7, P8, PA, PB, PC, Nat.reduceAdd, Nat.reduceSub, Nat.reduceMul, Nat.reduceLeDiff, Nat.reduceEqDiff, Nat.succ_ne_self, reduceCtorEq, Int.reduceToNat, Int.cast_ofNat_Int, Int.reduceEq, Int.reduceNe, Int.reduceLT, Int.reduceLE]
  refine i_loop (fun i : Nat => [some (.int .i64 window), some (.int .i64 need), some v, some (.pointer (some ⟨bt, 0, none⟩)), some (.pointer (some ⟨bm, 0, none⟩)), none, none, none, some (.int .i64 i), none, none, none, none, none, none, none, none, none, none, none, none, none, none, none, none, none, none, none, none, none, none, none, none])
    (fun i H => i ≤ L.length ∧ ∃ gt gm F, K2 h H gt gm F ∧ TrO gt bt window need (goodE (L.take i)) ∧ RT gm bm window need (goodE (L.take i))) (fun i => L.length - i) 0 (by try simp only [Pe, and_true, true_and, and_self]; rfl) ?_ ?_
  · refine ⟨by omega, fr h h1, fr h1 h2, h, ⟨Heap.le.refl h, hle1.trans hle2, (fr_le h h1).trans hle2, fr_le h1 h2, ?_, ?_, ?_⟩, by simpa [goodE] using hT, by simpa [goodE] using hM⟩
    · intro x hx
      cases e : fr h h1 x with
      | none => exact absurd e hx
      | some o => exact fr_none (fr_le h h1 x o e)
    · intro x hx
      cases e : h x with
      | none => rfl
      | some o => exact absurd (fr_none e) hx
    · intro x hx
      cases e : h x with
      | none => rfl
      | some o => exact absurd (fr_none (hle1 x o e)) hx
  rintro i H ⟨hi, gt, gm, F, hk, hT, hM⟩
  have Rv := (hv.le hk.le).rules1 id (fun _ => rfl) undef
  rw [hvl] at Rv
  try simp (disch := first | omega | (simp only [PL]; omega)) only [PS, P1, P2, P3, P4, P5, P6, P7, P8, PA, PB, PC, Nat.reduceAdd, Nat.reduceSub, Nat.reduceMul, Nat.reduceLeDiff, Nat.reduceEqDiff, Nat.succ_ne_self, reduceCtorEq, Int.reduceToNat, Int.cast_ofNat_Int, Int.reduceEq, Int.reduceNe, Int.reduceLT, Int.reduceLE, Rv]
  refine i_cond (fun c1 => ?_) (fun c1 => ?_)
  rotate_left
  · have : i = L.length := by omega
    subst this
    rw [List.take_length] at hT hM
    try simp (disch := first | omega | (simp only [PL]; omega)) only [PS, P1, P2, P3, P4, P5, P6, P7, P8, PA, PB, PC, Nat.reduceAdd, Nat.reduceSub, Nat.reduceMul, Nat.reduceLeDiff, Nat.reduceEqDiff, Nat.succ_ne_self, reduceCtorEq, Int.reduceToNat, Int.cast_ofNat_Int, Int.reduceEq, Int.reduceNe, Int.reduceLT, Int.reduceLE]
    exact hK2' bt bm H gt gm F hk hT hM
  have hi2 : i < L.length := by omega
  have hrow := (hr i hi2).le hk.le
  have hrl : (L.getD i []).length ≤ 25 := hli.1.2 _ (getD_mem [] hi2)
  have Rr := hrow.rules 4 Si.enc_len default
  generalize hrw : L.getD i [] = row at *
  -- 'own': two orders, one end
  try simp (disch := first | omega | (simp only [PL]; omega)) only [PS, P1, P2, P3, P4, P5, P6, P7, P8, PA, PB, PC, Nat.reduceAdd, Nat.reduceSub, Nat.reduceMul, Nat.reduceLeDiff, Nat.reduceEqDiff, Nat.succ_ne_self, reduceCtorEq, Int.reduceToNat, Int.cast_ofNat_Int, Int.reduceEq, Int.reduceNe, Int.reduceLT, Int.reduceLE, Rv, id, Rr]
  refine i_meet_alt (fun env H2 => ∃ v22 v9 x, Heap.le H H2 ∧ OwnS Si.enc 4 H H2 v22 (row ++ [x]) ∧ (∀ n, elt v9 n = elt v22 n) ∧ (∀ h1 h' (l' : List Si), l'.length = row.length → OwnS Si.enc 4 h1 h' v22 (l' ++ [x]) → Sl Si.enc h' v9 l') ∧
    env = [some (.int .i64 window), some (.int .i64 need), some v, some (.pointer (some ⟨bt, 0, none⟩)), some (.pointer (some ⟨bm, 0, none⟩)), none, none, none, some (.int .i64 i), some v9, none, none, none, none, none, none, none, none, none, none, none, none, none, none, none, none, none, none, none, none, none, none, none]) ?_ ?_
  rotate_left
  · have hend : ∀ (H3 : Heap) (v22 : Value), OwnS Si.enc 4 H H3 v22 (row ++ [⟨77, 0, 0, []⟩]) → ∃ v9, (∀ k k', o3V (.lsl 4) (.v v22) (.v (.int k 0)) (.v (.int k' (row.length : Int))) = some (.v v9)) ∧ (∀ n, elt v9 n = elt v22 n) ∧
        (∀ h1 h' (l' : List Si), l'.length = row.length → OwnS Si.enc 4 h1 h' v22 (l' ++ [⟨77, 0, 0, []⟩]) → Sl Si.enc h' v9 l') := fun H3 v22 ho => ho.lsl0 Si.enc_len
    refine i_alt ?_ ?_
    · try simp (disch := first | omega | (simp only [PL]; omega)) only [PS, P1, P2, P3, P4, P5, P6, P7, P8, PA, PB, PC, Nat.reduceAdd, Nat.reduceSub, Nat.reduceMul, Nat.reduceLeDiff, Nat.reduceEqDiff, Nat.succ_ne_self, reduceCtorEq, Int.reduceToNat, Int.cast_ofNat_Int, Int.reduceEq, Int.reduceNe, Int.reduceLT, Int.reduceLE, Rv, id, Rr]
      refine i_app Si.enc_len Si.enc_one (OwnS.nil (Heap.le.refl H)) hrow (by simp only [List.length_nil]; omega) fun v1 H1 ho1 => ?_
      rw [List.nil_append] at ho1
      refine i_le (le_one ho1.1) ?_
      have O1 := ho1.one
      try simp (disch := first | omega | (simp only [PL]; omega)) only [PS, P1, P2, P3, P4, P5, P6, P7, P8, PA, PB, PC, Nat.reduceAdd, Nat.reduceSub, Nat.reduceMul, Nat.reduceLeDiff, Nat.reduceEqDiff, Nat.succ_ne_self, reduceCtorEq, Int.reduceToNat, Int.cast_ofNat_Int, Int.reduceEq, Int.reduceNe, Int.reduceLT, Int.reduceLE, O1.1, O1.2]
      refine i_bslB Si.enc 4 Si.enc_len [⟨77, 0, 0, []⟩] rfl rfl (by simp [maxLen]) fun x1 b1 H2 hle2 hb1 hx1 hS1 => ?_
      have O2 := hS1.one
      try simp (disch := first | omega | (simp only [PL]; omega)) only [PS, P1, P2, P3, P4, P5, P6, P7, P8, PA, PB, PC, Nat.reduceAdd, Nat.reduceSub, Nat.reduceMul, Nat.reduceLeDiff, Nat.reduceEqDiff, Nat.succ_ne_self, reduceCtorEq, Int.reduceToNat, Int.cast_ofNat_Int, Int.reduceEq, Int.reduceNe, Int.reduceLT, Int.reduceLE, O2.1, O2.2]
      refine i_lew (le_one (ho1.1.trans hle2)) ?_
      try simp (disch := first | omega | (simp only [PL]; omega)) only [PS, P1, P2, P3, P4, P5, P6, P7, P8, PA, PB, PC, Nat.reduceAdd, Nat.reduceSub, Nat.reduceMul, Nat.reduceLeDiff, Nat.reduceEqDiff, Nat.succ_ne_self, reduceCtorEq, Int.reduceToNat, Int.cast_ofNat_Int, Int.reduceEq, Int.reduceNe, Int.reduceLT, Int.reduceLE]
      refine i_app1 Si.enc_len (fun x _ => Si.enc_one x) (ho1.le hle2) (SlB.sl Si.enc_len (hS1.le (fr_le _ _))) (by simp only [List.length_singleton]; omega) fun v22 H3 ho3 => ?_
      obtain ⟨v9, q1, q2, q3⟩ := hend H3 v22 ho3
      try simp (disch := first | omega | (simp only [PL]; omega)) only [PS, P1, P2, P3, P4, P5, P6, P7, P8, PA, PB, PC, Nat.reduceAdd, Nat.reduceSub, Nat.reduceMul, Nat.reduceLeDiff, Nat.reduceEqDiff, Nat.succ_ne_self, reduceCtorEq, Int.reduceToNat, Int.cast_ofNat_Int, Int.reduceEq, Int.reduceNe, Int.reduceLT, Int.reduceLE]
      refine i_lew (le_one ho3.1) ?_
      try simp (disch := first | omega | (simp only [PL]; omega)) only [PS, P1, P2, P3, P4, P5, P6, P7, P8, PA, PB, PC, Nat.reduceAdd, Nat.reduceSub, Nat.reduceMul, Nat.reduceLeDiff, Nat.reduceEqDiff, Nat.succ_ne_self, reduceCtorEq, Int.reduceToNat, Int.cast_ofNat_Int, Int.reduceEq, Int.reduceNe, Int.reduceLT, Int.reduceLE, q1]
      exact k_meet _ (by try simp only [Pe, and_true, true_and, and_self]) ⟨v22, v9, ⟨77, 0, 0, []⟩, ho3.1, ho3, q2, q3, rfl⟩
    · try simp (disch := first | omega | (simp only [PL]; omega)) only [PS, P1, P2, P3, P4, P5, P6, P7, P8, PA, PB, PC, Nat.reduceAdd, Nat.reduceSub, Nat.reduceMul, Nat.reduceLeDiff, Nat.reduceEqDiff, Nat.succ_ne_self, reduceCtorEq, Int.reduceToNat, Int.cast_ofNat_Int, Int.reduceEq, Int.reduceNe, Int.reduceLT, Int.reduceLE, Rv, id, Rr]
      refine i_bslB Si.enc 4 Si.enc_len [⟨77, 0, 0, []⟩] rfl rfl (by simp [maxLen]) fun x1 b1 H2 hle2 hb1 hx1 hS1 => ?_
      have O2 := hS1.one
      try simp (disch := first | omega | (simp only [PL]; omega)) only [PS, P1, P2, P3, P4, P5, P6, P7, P8, PA, PB, PC, Nat.reduceAdd, Nat.reduceSub, Nat.reduceMul, Nat.reduceLeDiff, Nat.reduceEqDiff, Nat.succ_ne_self, reduceCtorEq, Int.reduceToNat, Int.cast_ofNat_Int, Int.reduceEq, Int.reduceNe, Int.reduceLT, Int.reduceLE, O2.1, O2.2]
      refine i_le (le_one hle2) ?_
      try simp (disch := first | omega | (simp only [PL]; omega)) only [PS, P1, P2, P3, P4, P5, P6, P7, P8, PA, PB, PC, Nat.reduceAdd, Nat.reduceSub, Nat.reduceMul, Nat.reduceLeDiff, Nat.reduceEqDiff, Nat.succ_ne_self, reduceCtorEq, Int.reduceToNat, Int.cast_ofNat_Int, Int.reduceEq, Int.reduceNe, Int.reduceLT, Int.reduceLE]
      refine i_app Si.enc_len Si.enc_one (OwnS.nil (Heap.le.refl H2)) (hrow.le hle2) (by simp only [List.length_nil]; omega) fun v1 H1 ho1 => ?_
      rw [List.nil_append] at ho1
      have O1 := ho1.one
      try simp (disch := first | omega | (simp only [PL]; omega)) only [PS, P1, P2, P3, P4, P5, P6, P7, P8, PA, PB, PC, Nat.reduceAdd, Nat.reduceSub, Nat.reduceMul, Nat.reduceLeDiff, Nat.reduceEqDiff, Nat.succ_ne_self, reduceCtorEq, Int.reduceToNat, Int.cast_ofNat_Int, Int.reduceEq, Int.reduceNe, Int.reduceLT, Int.reduceLE, O1.1, O1.2]
      refine i_lew (le_one (hle2.trans ho1.1)) ?_
      try simp (disch := first | omega | (simp only [PL]; omega)) only [PS, P1, P2, P3, P4, P5, P6, P7, P8, PA, PB, PC, Nat.reduceAdd, Nat.reduceSub, Nat.reduceMul, Nat.reduceLeDiff, Nat.reduceEqDiff, Nat.succ_ne_self, reduceCtorEq, Int.reduceToNat, Int.cast_ofNat_Int, Int.reduceEq, Int.reduceNe, Int.reduceLT, Int.reduceLE]
      refine i_app1 Si.enc_len (fun x _ => Si.enc_one x) ho1 (SlB.sl Si.enc_len (hS1.le ((fr_le _ _).trans ho1.1))) (by simp only [List.length_singleton]; omega) fun v22 H3 ho3' => ?_
      have ho3 := ho3'.base hle2
      obtain ⟨v9, q1, q2, q3⟩ := hend H3 v22 ho3
      try simp (disch := first | omega | (simp only [PL]; omega)) only [PS, P1, P2, P3, P4, P5, P6, P7, P8, PA, PB, PC, Nat.reduceAdd, Nat.reduceSub, Nat.reduceMul, Nat.reduceLeDiff, Nat.reduceEqDiff, Nat.succ_ne_self, reduceCtorEq, Int.reduceToNat, Int.cast_ofNat_Int, Int.reduceEq, Int.reduceNe, Int.reduceLT, Int.reduceLE]
      refine i_lew (le_one ho3.1) ?_
      try simp (disch := first | omega | (simp only [PL]; omega)) only [PS, P1, P2, P3, P4, P5, P6, P7, P8, PA, PB, PC, Nat.reduceAdd, Nat.reduceSub, Nat.reduceMul, Nat.reduceLeDiff, Nat.reduceEqDiff, Nat.succ_ne_self, reduceCtorEq, Int.reduceToNat, Int.cast_ofNat_Int, Int.reduceEq, Int.reduceNe, Int.reduceLT, Int.reduceLE, q1]
      exact k_meet _ (by try simp only [Pe, and_true, true_and, and_self]) ⟨v22, v9, ⟨77, 0, 0, []⟩, ho3.1, ho3, q2, q3, rfl⟩
  rintro env H2 ⟨v22, v9, x, hle2, hO, hel9, hsl9, rfl⟩
  have hk2 := hk.freeze hle2
  have hrow2 := hrow.le hle2
  have Rv2 := (hv.le (hk.le.trans hle2)).rules1 id (fun _ => rfl) undef
  rw [hvl] at Rv2
  have h9 := hsl9 _ _ row rfl hO
  have htel : (goodE (L.take i)).length ≤ 25 := by
    have := List.length_filter_le (fun l => decide (∀ s ∈ l, ¬ s.bad)) (L.take i)
    have h3 : (L.take i).length ≤ 25 := by rw [List.length_take]; have := hli.1.1; omega
    unfold goodE; omega
  have hgd : ∀ l ∈ goodE (L.take i), isGood l ∧ l.length ≤ 25 := by
    intro l hl
    unfold goodE at hl
    obtain ⟨k1, k2⟩ := List.mem_filter.1 hl
    exact ⟨of_decide_eq_true k2, hli.1.2 l (List.mem_of_mem_take k1)⟩
  have hnext : goodE (L.take (i + 1)) = addE (goodE (L.take i)) row := by rw [goodE_take hi2, hrw]; rfl
  try simp (disch := first | omega | (simp only [PL]; omega)) only [PS, P1, P2, P3, P4, P5, P6, P7, P8, PA, PB, PC, Nat.reduceAdd, Nat.reduceSub, Nat.reduceMul, Nat.reduceLeDiff, Nat.reduceEqDiff, Nat.succ_ne_self, reduceCtorEq, Int.reduceToNat, Int.cast_ofNat_Int, Int.reduceEq, Int.reduceNe, Int.reduceLT, Int.reduceLE, Rv2, id]
  refine i_call H45 (S45_all hrow2 hM hk2.lm (by omega) (by omega) fun gm1 H3 hS3 hM3 => ?_)
  have hk3 := hk2.stepM hS3
  have h93 : Sl Si.enc H3 v9 row := by
    have : Heap.le (fr H H2) H3 := (join_r (hk.lF.trans hle2) (fr_le H H2)).trans hk3.lF
    have h1 := hO.slb.1
    have h2 : SlB Si.enc 4 (fr H H2) v22 (row ++ [x]) := h1.same fun b hb => by simp [fr, hO.slb.2 b hb]
    exact hsl9 _ _ row rfl ((h2.le this).own (h0 := fun _ => none) (fun _ _ h => by cases h) fun _ _ => rfl)
  try simp (disch := first | omega | (simp only [PL]; omega)) only [PS, P1, P2, P3, P4, P5, P6, P7, P8, PA, PB, PC, Nat.reduceAdd, Nat.reduceSub, Nat.reduceMul, Nat.reduceLeDiff, Nat.reduceEqDiff, Nat.succ_ne_self, reduceCtorEq, Int.reduceToNat, Int.cast_ofNat_Int, Int.reduceEq, Int.reduceNe, Int.reduceLT, Int.reduceLE]
  refine i_call H29 (S29_all h93 hT hk3.lt ⟨by omega, by omega, by omega, fun l hl => ⟨(hgd l hl).1, by have := (hgd l hl).2; omega⟩⟩ (by omega) (by omega) fun gt1 H4 hS4 hT4 => ?_)
  have hk4 := hk3.stepT hS4
  try simp (disch := first | omega | (simp only [PL]; omega)) only [PS, P1, P2, P3, P4, P5, P6, P7, P8, PA, PB, PC, Nat.reduceAdd, Nat.reduceSub, Nat.reduceMul, Nat.reduceLeDiff, Nat.reduceEqDiff, Nat.succ_ne_self, reduceCtorEq, Int.reduceToNat, Int.cast_ofNat_Int, Int.reduceEq, Int.reduceNe, Int.reduceLT, Int.reduceLE]
  refine i_call H19 ⟨errE row, errE row, rfl, ?_⟩
  obtain ⟨evm, fvm, hom, ⟨vsm, hvm, hvml, _⟩, _⟩ := hM3.read hk4.lm
  have Am : H4.cell ((⟨bm, 0, none⟩ : Addr).add 2) = some evm := hom.rules.1 2 (by simp)
  have Rm := hvm.rules1 id (fun _ => rfl) undef
  rw [hvml] at Rm
  rw [decide_eq_true rfl]
  try simp (disch := first | omega | (simp only [PL]; omega)) only [PS, P1, P2, P3, P4, P5, P6, P7, P8, PA, PB, PC, Nat.reduceAdd, Nat.reduceSub, Nat.reduceMul, Nat.reduceLeDiff, Nat.reduceEqDiff, Nat.succ_ne_self, reduceCtorEq, Int.reduceToNat, Int.cast_ofNat_Int, Int.reduceEq, Int.reduceNe, Int.reduceLT, Int.reduceLE, Am, Rm]
  refine i_call H31 ⟨gt1, bt, window, need, _, rfl, hT4, hk4.lt, ?_⟩
  refine i_le (le_one (Heap.le.refl _)) ?_
  try simp (disch := first | omega | (simp only [PL]; omega)) only [PS, P1, P2, P3, P4, P5, P6, P7, P8, PA, PB, PC, Nat.reduceAdd, Nat.reduceSub, Nat.reduceMul, Nat.reduceLeDiff, Nat.reduceEqDiff, Nat.succ_ne_self, reduceCtorEq, Int.reduceToNat, Int.cast_ofNat_Int, Int.reduceEq, Int.reduceNe, Int.reduceLT, Int.reduceLE]
  have hown : SlB Si.enc 4 H4 v22 (row ++ [x]) := by
    have h1 : Heap.le (fr H H2) H4 := (join_r (hk.lF.trans hle2) (fr_le H H2)).trans hk4.lF
    have h2 : SlB Si.enc 4 (fr H H2) v22 (row ++ [x]) := hO.slb.1.same fun b hb => by simp [fr, hO.slb.2 b hb]
    exact h2.le h1
  have hownF : ∀ b, blkOf v22 = some b → (fr H H2) b ≠ none := by
    have h2 : SlB Si.enc 4 (fr H H2) v22 (row ++ [x]) := hO.slb.1.same fun b hb => by simp [fr, hO.slb.2 b hb]
    exact fun b hb => h2.mem hb
  obtain ⟨h0, hh0⟩ : ∃ h0 : Heap, h0 = fun b => if blkOf v22 = some b then none else H4 b := ⟨_, rfl⟩
  have hle0 : Heap.le h0 H4 := by
    intro b o hb; rw [hh0] at hb; dsimp only at hb; split at hb
    · cases hb
    · exact hb
  have hO4 : OwnS Si.enc 4 h0 H4 v22 (row ++ [x]) := hown.own hle0 fun b hb => by rw [hh0]; simp [hb]
  have hkeep : ∀ G : Heap, Heap.le G H4 → (∀ b, blkOf v22 = some b → G b = none) → Heap.le G h0 := by
    intro G hG hn b o hb
    rw [hh0]
    dsimp only
    rw [if_neg fun e => by rw [hn b e] at hb; cases hb]
    exact hG b o hb
  have hgn : ∀ G : Heap, disj G (join F (fr H H2)) → ∀ b, blkOf v22 = some b → G b = none := by
    intro G hd b hb
    refine hd.sym b ?_
    simp only [join]
    cases e : F b with
    | some o => simp
    | none => simpa using hownF b hb
  have hFn0 : ∀ b, blkOf v22 = some b → F b = none := fun b hb => le_none hk.lF b (hO.slb.2 b hb)
  have hF0 : Heap.le F h0 := hkeep F ((join_l _ _).trans hk4.lF) hFn0
  have ht0 := hkeep gt1 hk4.lt (hgn gt1 hk4.dtF)
  have hm0 := hkeep gm1 hk4.lm (hgn gm1 hk4.dmF)
  refine i_loop (fun k : Nat => [some (.int .i64 window), some (.int .i64 need), some v, some (.pointer (some ⟨bt, 0, none⟩)), some (.pointer (some ⟨bm, 0, none⟩)), none, none, none, some (.int .i64 i), some v9, none, some (.int .i64 k), none, none, none, none, none, none, none, none, none, none, none, none, none, none, none, none, none, none, none, none, none])
    (fun k H5 => k ≤ row.length ∧ ∃ l' : List Si, l'.length = row.length ∧ OwnS Si.enc 4 h0 H5 v22 (l' ++ [x])) (fun k => row.length - k) 0 (by try simp only [Pe, and_true, true_and, and_self]; rfl) ⟨by omega, row, rfl, hO4⟩ ?_
  rintro k H5 ⟨hkk, l', hl', hO5⟩
  have R9 := (hsl9 _ _ l' hl' hO5).rules 4 Si.enc_len default
  rw [hl'] at R9
  try simp (disch := first | omega | (simp only [PL]; omega)) only [PS, P1, P2, P3, P4, P5, P6, P7, P8, PA, PB, PC, Nat.reduceAdd, Nat.reduceSub, Nat.reduceMul, Nat.reduceLeDiff, Nat.reduceEqDiff, Nat.succ_ne_self, reduceCtorEq, Int.reduceToNat, Int.cast_ofNat_Int, Int.reduceEq, Int.reduceNe, Int.reduceLT, Int.reduceLE, R9]
  refine i_cond (fun c2 => ?_) (fun c2 => ?_)
  · try simp (disch := first | omega | (simp only [PL]; omega)) only [PS, P1, P2, P3, P4, P5, P6, P7, P8, PA, PB, PC, Nat.reduceAdd, Nat.reduceSub, Nat.reduceMul, Nat.reduceLeDiff, Nat.reduceEqDiff, Nat.succ_ne_self, reduceCtorEq, Int.reduceToNat, Int.cast_ofNat_Int, Int.reduceEq, Int.reduceNe, Int.reduceLT, Int.reduceLE, R9]
    have hst := fun K hK => i_stS (N := N) (Γ := Γ) (enc := Si.enc) (sz := 4) Si.enc_len ⟨7, 0, 0, [111, 116, 104, 101, 114]⟩ rfl hO5 (x := .agg #[.int .i64 7, .int .i64 0, .int .i64 0, .string (str [111, 116, 104, 101, 114])]) (j := k) (by simp; omega) rfl (K := K) hK
    rw [← hel9] at hst
    refine hst _ fun H6 hO6 => ?_
    try simp (disch := first | omega | (simp only [PL]; omega)) only [PS, P1, P2, P3, P4, P5, P6, P7, P8, PA, PB, PC, Nat.reduceAdd, Nat.reduceSub, Nat.reduceMul, Nat.reduceLeDiff, Nat.reduceEqDiff, Nat.succ_ne_self, reduceCtorEq, Int.reduceToNat, Int.cast_ofNat_Int, Int.reduceEq, Int.reduceNe, Int.reduceLT, Int.reduceLE]
    refine k_loop (k + 1) (by omega) (by try simp only [Pe, and_true, true_and, and_self]) ⟨by omega, l'.set k ⟨7, 0, 0, [111, 116, 104, 101, 114]⟩, by simpa using hl', ?_⟩
    rw [List.set_append_left _ _ (by omega)] at hO6
    exact hO6
  · have hl25 : L.length ≤ 25 := hli.1.1
    try simp (disch := first | omega | (simp only [PL]; omega)) only [PS, P1, P2, P3, P4, P5, P6, P7, P8, PA, PB, PC, Nat.reduceAdd, Nat.reduceSub, Nat.reduceMul, Nat.reduceLeDiff, Nat.reduceEqDiff, Nat.succ_ne_self, reduceCtorEq, Int.reduceToNat, Int.cast_ofNat_Int, Int.reduceEq, Int.reduceNe, Int.reduceLT, Int.reduceLE]
    refine k_loop (i + 1) (by omega) (by try simp only [Pe, and_true, true_and, and_self]) ⟨by omega, gt1, gm1, F, ⟨hk.hF, hF0.trans hO5.1, ht0.trans hO5.1, hm0.trans hO5.1, hk4.dtm, fun x hx => le_none (join_l _ _) x (hk4.dtF x hx), fun x hx => le_none (join_l _ _) x (hk4.dmF x hx)⟩, by rw [hnext]; exact hT4, by rw [hnext]; exact hM3⟩
end Go.Cw
namespace Go.Cw
open Go

def x1 : Si := ⟨3, 0, 0, [120]⟩
theorem whr_x1 : whr 2 1 [[x1]] [120] 0 = (3, 0) := by decide
theorem cms_x1 : cms 2 1 [[x1]] [120] 3 0 = true := by decide
def S11 : Spec := fun args h K => args = [] ∧ ∀ h', Heap.le h h' → K (.bool true) h'
theorem F11_ok {N : Num} {Γ : Ctx} [GoodC Γ] (H28 : Sat (S28 N) (Γ 28)) (H19 : Sat (S19 N) (Γ 19)) (H29 : Sat (S29 N) (Γ 29)) (H30 : Sat (S30 N) (Γ 30)) (H31 : Sat S31 (Γ 31)) (H50 : Sat S50 (Γ 50)) : Sat S11 (SF N Γ F11) := by
  rintro _ h K ⟨rfl, hK⟩
  refine i_fun rfl ?_
  simp only [F11, env0, List.map, List.length, List.replicate, List.cons_append, List.nil_append, Nat.reduceSub, Nat.reduceAdd]
  try simp (disch := first | omega | (simp only [PL]; omega)) only [PS, P1, P2, P3, P4, P5, P6, P7, P8, PA, PB, PC, Nat.reduceAdd, Nat.reduceSub, Nat.reduceMul, Nat.reduceLeDiff, Nat.reduceEqDiff, Nat.succ_ne_self, reduceCtorEq, Int.reduceToNat, Int.cast_ofNat_Int, Int.reduceEq, Int.reduceNe, Int.reduceLT, Int.reduceLE]
  refine i_call H28 ⟨2, 1, rfl, fun hb => absurd hb (by decide), fun _ b h1 hb hle1 hT => ?_⟩
  have e2 : (2 : Int).toNat = 2 := rfl
  have e1 : (1 : Int).toNat = 1 := rfl
  rw [e2, e1] at hT
  try simp (disch := first | omega | (simp only [PL]; omega)) only [PS, P1, P2, P3, P4, P5, P6, P7, P8, PA, PB, PC, Nat.reduceAdd, Nat.reduceSub, Nat.reduceMul, Nat.reduceLeDiff, Nat.reduceEqDiff, Nat.succ_ne_self, reduceCtorEq, Int.reduceToNat, Int.cast_ofNat_Int, Int.reduceEq, Int.reduceNe, Int.reduceLT, Int.reduceLE]
  refine i_bslB Si.enc 4 Si.enc_len [x1] rfl rfl (by simp [maxLen]) fun v b1 h2 hle2 hb1 hv1 hS1 => ?_
  have O1 := hS1.one
  try simp (disch := first | omega | (simp only [PL]; omega)) only [PS, P1, P2, P3, P4, P5, P6, P7, P8, PA, PB, PC, Nat.reduceAdd, Nat.reduceSub, Nat.reduceMul, Nat.reduceLeDiff, Nat.reduceEqDiff, Nat.succ_ne_self, reduceCtorEq, Int.reduceToNat, Int.cast_ofNat_Int, Int.reduceEq, Int.reduceNe, Int.reduceLT, Int.reduceLE, O1.1, O1.2]
  refine i_call H29 (S29_all (SlB.sl Si.enc_len (hS1.le (fr_le _ _))) hT ((fr_le h h1).trans hle2) ⟨by omega, by omega, by simp, by simp⟩ (by simp) (by simp) fun g3 h3 hS3 hT3 => ?_)
  have hge : errE [x1] = 0 := by decide
  have hga : addE [] [x1] = [[x1]] := by decide
  rw [hge]
  rw [hga] at hT3
  have hk := hS3.keep (f := h) (hle1.trans hle2) (fun x hx => by
    cases e : h x with
    | none => exact absurd e hx
    | some o => exact fr_none e)
  try simp (disch := first | omega | (simp only [PL]; omega)) only [PS, P1, P2, P3, P4, P5, P6, P7, P8, PA, PB, PC, Nat.reduceAdd, Nat.reduceSub, Nat.reduceMul, Nat.reduceLeDiff, Nat.reduceEqDiff, Nat.succ_ne_self, reduceCtorEq, Int.reduceToNat, Int.cast_ofNat_Int, Int.reduceEq, Int.reduceNe, Int.reduceLT, Int.reduceLE, errV_zero]
  refine i_call H30 (S30_whr (e := 0) hT3 hS3.le ?_)
  rw [show ([120] : List UInt8) = [120] from rfl, whr_x1]
  try simp (disch := first | omega | (simp only [PL]; omega)) only [PS, P1, P2, P3, P4, P5, P6, P7, P8, PA, PB, PC, Nat.reduceAdd, Nat.reduceSub, Nat.reduceMul, Nat.reduceLeDiff, Nat.reduceEqDiff, Nat.succ_ne_self, reduceCtorEq, Int.reduceToNat, Int.cast_ofNat_Int, Int.reduceEq, Int.reduceNe, Int.reduceLT, Int.reduceLE]
  refine i_call H19 ⟨0, 0, rfl, ?_⟩
  rw [decide_eq_true rfl]
  try simp (disch := first | omega | (simp only [PL]; omega)) only [PS, P1, P2, P3, P4, P5, P6, P7, P8, PA, PB, PC, Nat.reduceAdd, Nat.reduceSub, Nat.reduceMul, Nat.reduceLeDiff, Nat.reduceEqDiff, Nat.succ_ne_self, reduceCtorEq, Int.reduceToNat, Int.cast_ofNat_Int, Int.reduceEq, Int.reduceNe, Int.reduceLT, Int.reduceLE]
  refine i_call H50 ⟨g3, b, 2, 1, [[x1]], [120], 3, 0, rfl, hT3, hS3.le, by simp, ?_⟩
  rw [cms_x1]
  try simp (disch := first | omega | (simp only [PL]; omega)) only [PS, P1, P2, P3, P4, P5, P6, P7, P8, PA, PB, PC, Nat.reduceAdd, Nat.reduceSub, Nat.reduceMul, Nat.reduceLeDiff, Nat.reduceEqDiff, Nat.succ_ne_self, reduceCtorEq, Int.reduceToNat, Int.cast_ofNat_Int, Int.reduceEq, Int.reduceNe, Int.reduceLT, Int.reduceLE]
  refine i_call H31 ⟨g3, b, 2, 1, [[x1]], rfl, hT3, hS3.le, ?_⟩
  try simp (disch := first | omega | (simp only [PL]; omega)) only [PS, P1, P2, P3, P4, P5, P6, P7, P8, PA, PB, PC, Nat.reduceAdd, Nat.reduceSub, Nat.reduceMul, Nat.reduceLeDiff, Nat.reduceEqDiff, Nat.succ_ne_self, reduceCtorEq, Int.reduceToNat, Int.cast_ofNat_Int, Int.reduceEq, Int.reduceNe, Int.reduceLT, Int.reduceLE]
  exact hK _ hk.1
end Go.Cw
namespace Go.Cw
open Go

theorem bless_irr : ∀ a : List UInt8, Op.bytesLess a a = false := by
  intro a
  induction a with
  | nil => rfl
  | cons x a ih => simp [Op.bytesLess, ih]
theorem bless_trans : ∀ {a b c : List UInt8}, Op.bytesLess a b = true → Op.bytesLess b c = true → Op.bytesLess a c = true := by
  intro a
  induction a with
  | nil =>
    intro b c h1 h2
    cases c with
    | nil => cases b <;> simp [Op.bytesLess] at h2
    | cons z c => rfl
  | cons x a ih =>
    intro b c h1 h2
    cases b with
    | nil => simp [Op.bytesLess] at h1
    | cons y b =>
      cases c with
      | nil => simp [Op.bytesLess] at h2
      | cons z c =>
        simp only [Op.bytesLess, Bool.or_eq_true, decide_eq_true_eq, Bool.and_eq_true, beq_iff_eq] at h1 h2 ⊢
        rcases h1 with h1 | ⟨rfl, h1⟩
        · rcases h2 with h2 | ⟨rfl, _⟩
          · exact .inl (UInt8.lt_trans h1 h2)
          · exact .inl h1
        · rcases h2 with h2 | ⟨rfl, h2⟩
          · exact .inl h2
          · exact .inr ⟨rfl, ih h1 h2⟩
theorem bless_tot : ∀ {a b : List UInt8}, Op.bytesLess a b = false → a ≠ b → Op.bytesLess b a = true := by
  intro a
  induction a with
  | nil =>
    intro b h1 h2
    cases b with
    | nil => exact absurd rfl h2
    | cons y b => simp [Op.bytesLess] at h1
  | cons x a ih =>
    intro b h1 h2
    cases b with
    | nil => rfl
    | cons y b =>
      simp only [Op.bytesLess, Bool.or_eq_false_iff, decide_eq_false_iff_not, Bool.and_eq_false_imp, beq_iff_eq] at h1
      simp only [Op.bytesLess, Bool.or_eq_true, decide_eq_true_eq, Bool.and_eq_true, beq_iff_eq]
      by_cases e : x = y
      · subst e
        exact .inr ⟨rfl, ih (h1.2 rfl) (fun e => h2 (by rw [e]))⟩
      · refine .inl ?_
        rcases UInt8.lt_or_lt_of_ne (Ne.symm e) with h | h
        · exact h
        · exact absurd h h1.1
theorem bless_asymm {a b : List UInt8} (h : Op.bytesLess a b = true) : Op.bytesLess b a = false := by
  cases hb : Op.bytesLess b a with
  | false => rfl
  | true => have := bless_trans h hb; rw [bless_irr] at this; cases this

def ordT (l : List (List UInt8)) : Prop := l.Pairwise fun a b => Op.bytesLess a b = true
theorem ordT_ins (s : List UInt8) : ∀ l, ordT l → ordT (insT l s) := by
  intro l
  induction l with
  | nil => intro _; simp [insT, ordT]
  | cons x l ih =>
    intro h
    have h1 := List.pairwise_cons.1 h
    simp only [insT]
    split
    · rename_i hx
      refine List.pairwise_cons.2 ⟨fun y hy => ?_, ih h1.2⟩
      rcases (mem_insT s y l).1 hy with rfl | hy
      · exact hx
      · exact h1.1 y hy
    · rename_i hx
      split
      · exact h
      · rename_i hne
        have hsx : Op.bytesLess s x = true := bless_tot (by simpa using hx) hne
        refine List.pairwise_cons.2 ⟨fun y hy => ?_, h⟩
        simp only [List.mem_cons] at hy
        rcases hy with rfl | hy
        · exact hsx
        · exact bless_trans hsx (h1.1 y hy)
theorem ordT_tagsOfL (l : List (List UInt8)) : ordT (tagsOfL l) := by
  induction l using snoc_ind with
  | h0 => simp [tagsOfL, ordT]
  | hs l s ih => rw [tagsOfL_snoc]; exact ordT_ins s _ ih
theorem ordT_nodup {l : List (List UInt8)} (h : ordT l) : l.Nodup := by
  refine List.Pairwise.imp (fun {a b} h e => ?_) h
  subst e; rw [bless_irr] at h; cases h
theorem tagsE_nodup (E : List (List Si)) : (tagsE E).Nodup := ordT_nodup (ordT_tagsOfL _)
theorem nodup_len {α : Type} [DecidableEq α] {l m : List α} (hl : l.Nodup) (hm : m.Nodup) (h : ∀ x, x ∈ l ↔ x ∈ m) : l.length = m.length := by
  have h1 : ∀ {l m : List α}, l.Nodup → (∀ x ∈ l, x ∈ m) → l.length ≤ m.length := by
    intro l
    induction l with
    | nil => intro m _ _; simp
    | cons a l ih =>
      intro m hn hs
      have hn' := List.nodup_cons.1 hn
      have ha := hs a (by simp)
      have := ih (m := m.erase a) hn'.2 fun x hx => by
        have : x ≠ a := by rintro rfl; exact hn'.1 hx
        exact (List.mem_erase_of_ne this).2 (hs x (by simp [hx]))
      rw [List.length_erase_of_mem ha] at this
      have := List.length_pos_of_mem ha
      simp; omega
  exact Nat.le_antisymm (h1 hl fun x hx => (h x).1 hx) (h1 hm fun x hx => (h x).2 hx)
end Go.Cw
/- Going over the keys of a map by an iterator: the rule at which a proof chooses. -/
namespace Go.Cw
open Go

def rfA (N : Num) (Γ : Ctx) (body : St) (Q2 : SE → Env → Heap → Prop) : SE → Env → Heap → Prop := fun x env G => match x with
  | .normal => SW N Γ body Q2 env G
  | _ => False
def rfB (J : Heap → Prop) (Q : SE → Env → Heap → Prop) (env0 : Env) : SE → Env → Heap → Prop := fun y _ G => match y with
  | .normal => J G
  | y => Q y env0 G
@[congr] theorem rfA_congr {N : Num} {Γ : Ctx} {body : St} {Q2 : SE → Env → Heap → Prop} {x : SE} {env env' : Env} {G : Heap} (e : env = env') : rfA N Γ body Q2 x env G = rfA N Γ body Q2 x env' G := by rw [e]
@[congr] theorem rfB_congr {J : Heap → Prop} {Q : SE → Env → Heap → Prop} {env0 : Env} {x : SE} {env env' : Env} {G : Heap} (_e : env = env') : rfB J Q env0 x env G = rfB J Q env0 x env' G := by rw [_e]
theorem rf_rules : (∀ (N : Num) (Γ : Ctx) body Q2 env G, rfA N Γ body Q2 .normal env G = SW N Γ body Q2 env G) ∧ (∀ J Q env0 env G, rfB J Q env0 .normal env G = J G) ∧ (∀ J Q env0 env G, rfB J Q env0 .ret env G = Q .ret env0 G) ∧ (∀ J Q env0 i env G, rfB J Q env0 (.exit i) env G = Q (.exit i) env0 G) := ⟨fun _ _ _ _ _ _ => rfl, fun _ _ _ _ _ => rfl, fun _ _ _ _ _ => rfl, fun _ _ _ _ _ _ => rfl⟩
instance {N : Num} {Γ : Ctx} [GoodC Γ] {body : St} {Q2 : SE → Env → Heap → Prop} [MonoQ Q2] : MonoQ (rfA N Γ body Q2) where
  up := by
    intro e env env' h hl hx
    cases e with
    | normal => exact SW_mono GoodC.imp body (fun hl hx => MonoQ.up hl hx) hl hx
    | exit i => exact hx
    | ret => exact hx
instance {J : Heap → Prop} {Q : SE → Env → Heap → Prop} {env0 : Env} : MonoQ (rfB J Q env0) where
  up := by
    intro e env env' h hl hx
    cases e with
    | normal => exact hx
    | exit i => exact hx
    | ret => exact hx

section
variable {κ ν : Type}
theorem MapB.uniq {ek : κ → Value} {ev : ν → Value} {g g' : Heap} {m : Nat} {kv : List (κ × ν)} {bs : List Nat} {ck : Nat} (h : MapB ek ev g m kv bs ck) (h' : MapB ek ev g' m kv bs ck) : g m = g' m := by
  obtain ⟨es, h1, h2, _⟩ := h
  obtain ⟨es', h1', h2', _⟩ := h'
  have : es = es' := by apply Array.toList_inj.1; rw [h2, h2']
  rw [h1, h1', this]

/-- for each key of a map, in whatever order -/
theorem i_rfn {N : Num} {Γ : Ctx} [GoodC Γ] {k off i ip : Nat} {asg body : St} {ek : κ → Value} {ev : ν → Value} {env : Env} {H : Heap} {c a : Addr} {mp : Nat} {kv : List (κ × ν)} {bs : List Nat} {ck : Nat} {Q : SE → Env → Heap → Prop}
    (hf : env.get i = some (.func (.func (N.fid k)) #[] #[.pointer (some c)])) (hc : H.cell c = some (.pointer (some a))) (hm : H.cell (a.add off) = some (.map (some mp))) (J : List Nat → Heap → Prop) (h0 : J [] H) (hmap : ∀ dn G, J dn G → MapB ek ev G mp kv bs ck)
    (hend : ∀ dn G, J dn G → dn.Nodup → (∀ b ∈ dn, b ∈ bs) → (∀ b ∈ bs, b ∈ dn) → Q .normal env G)
    (hround : ∀ (dn : List Nat) (G : Heap) (j b : Nat) (key : κ) (val : ν), J dn G → dn.Nodup → (∀ b ∈ dn, b ∈ bs) → kv[j]? = some (key, val) → bs[j]? = some b → b ∉ dn → SW N Γ asg (rfA N Γ body (rfB (J (dn ++ [b])) Q env)) (env.put ip (ek key)) G) :
    SW N Γ (.rfn k off i ip asg body) Q env H := by
  obtain ⟨es, h1, h2, h3, h4, h5, h6⟩ := hmap [] H h0
  have hmem : ∀ e ∈ es.toList, ∃ (i : Nat) (k : κ) (v : ν) (b : Nat), kv[i]? = some (k, v) ∧ bs[i]? = some b ∧ e = mkE ek ev (k, v) b := by
    intro e he
    rw [h2] at he
    obtain ⟨i, hi, rfl⟩ := List.getElem_of_mem he
    simp only [List.length_zipWith] at hi
    have hi1 : i < kv.length := by omega
    have hi2 : i < bs.length := by omega
    exact ⟨i, kv[i].1, kv[i].2, bs[i], by simp [hi1], by simp [hi2], by simp⟩
  have hback : ∀ b ∈ bs, ∃ e ∈ es.toList, e.born = b := by
    intro b hb
    obtain ⟨i, hi, rfl⟩ := List.getElem_of_mem hb
    have hi1 : i < kv.length := by omega
    refine ⟨mkE ek ev kv[i] bs[i], ?_, rfl⟩
    rw [h2]
    have hlen : i < (List.zipWith (mkE ek ev) kv bs).length := by simp; omega
    have e : (List.zipWith (mkE ek ev) kv bs)[i] = mkE ek ev kv[i] bs[i] := by simp
    rw [← e]; exact List.getElem_mem hlen
  refine ⟨c, a, mp, es, ck, hf, hc, hm, h1, fun e he => ?_, fun dn G => J dn G ∧ dn.Nodup ∧ ∀ b ∈ dn, b ∈ bs, ⟨h0, List.nodup_nil, by simp⟩, ?_⟩
  · obtain ⟨i, k, v, b, a1, a2, rfl⟩ := hmem e he
    exact h5 _ (List.mem_of_getElem? a2)
  · rintro dn G ⟨hj, hnd, hsub⟩
    refine ⟨(MapB.uniq (hmap dn G hj) (hmap [] H h0)).trans h1, fun hall => hend dn G hj hnd hsub fun b hb => ?_, fun e he hne => ?_⟩
    · obtain ⟨e, he, rfl⟩ := hback b hb
      exact hall e he
    · obtain ⟨i, key, v, b, a1, a2, rfl⟩ := hmem e he
      have hr := hround dn G i b key v hj hnd hsub a1 a2 hne
      have hJ : ∀ G', J (dn ++ [b]) G' → J (dn ++ [b]) G' ∧ (dn ++ [b]).Nodup ∧ ∀ x ∈ dn ++ [b], x ∈ bs := by
        intro G' hj'
        refine ⟨hj', List.nodup_append.2 ⟨hnd, by simp, fun x hx y hy e => ?_⟩, fun x hx => ?_⟩
        · simp at hy; subst hy; subst e; exact hne hx
        · rw [List.mem_append, List.mem_singleton] at hx
          rcases hx with hx | rfl
          · exact hsub x hx
          · exact List.mem_of_getElem? a2
      refine SW_mono GoodC.imp asg (fun {x e e' G1} hl hx => ?_) (ele_refl _) hr
      cases x with
      | normal =>
        refine SW_mono GoodC.imp body (fun {y f f' G2} hl hy => ?_) hl hx
        cases y with
        | normal => exact hJ _ hy
        | exit i => exact hy
        | ret => exact hy
      | exit i => exact hx
      | ret => exact hx
end
end Go.Cw
namespace Go.Cw
open Go

def S54 (N : Num) : Spec := fun args h K => ∃ a, args = [.pointer (some a)] ∧ ∀ b h', Heap.le h h' → objAt (fr h h') ⟨b, 0, none⟩ [.pointer (some a)] → K (.func (.func (N.fid 71)) #[] #[.pointer (some ⟨b, 0, none⟩)]) h'
theorem F54_ok {N : Num} {Γ : Ctx} [GoodC Γ] : Sat (S54 N) (SF N Γ F54) := by
  rintro _ h K ⟨a, rfl, hK⟩
  refine i_fun rfl ?_
  simp only [F54, env0, List.map, List.length, List.replicate, List.cons_append, List.nil_append, Nat.reduceSub, Nat.reduceAdd]
  try simp (disch := first | omega | (simp only [PL]; omega)) only [PS, P1, P2, P3, P4, P5, P6, P7, P8, PA, PB, PC, Nat.reduceAdd, Nat.reduceSub, Nat.reduceMul, Nat.reduceLeDiff, Nat.reduceEqDiff, Nat.succ_ne_self, reduceCtorEq, Int.reduceToNat, Int.cast_ofNat_Int, Int.reduceEq, Int.reduceNe, Int.reduceLT, Int.reduceLE]
  refine i_newO fun b h1 hle1 hb ho => ?_
  try simp (disch := first | omega | (simp only [PL]; omega)) only [PS, P1, P2, P3, P4, P5, P6, P7, P8, PA, PB, PC, Nat.reduceAdd, Nat.reduceSub, Nat.reduceMul, Nat.reduceLeDiff, Nat.reduceEqDiff, Nat.succ_ne_self, reduceCtorEq, Int.reduceToNat, Int.cast_ofNat_Int, Int.reduceEq, Int.reduceNe, Int.reduceLT, Int.reduceLE]
  exact hK b h1 hle1 ho

theorem TrO.keys {g : Heap} {b window need : Nat} {E : List (List Si)} (hT : TrO g b window need E) : ∃ mw wkv bs ck, (∀ h, Heap.le g h → h.cell ((⟨b, 0, none⟩ : Addr).add 3) = some (.map (some mw))) ∧ MapB encKS id g mw wkv bs ck ∧
    (wkv.map (·.1)).Nodup ∧ ∀ tag, tag ∈ wkv.map (·.1) ↔ toldE E tag := by
  obtain ⟨W, ev, mw, wkv, bs, ck, gi, ems, hT, hW⟩ := hT
  refine ⟨mw, wkv, bs, ck, fun h hl => (objAt.le hT.obj hl).rules.1 3 (by simp), hT.wm, ?_, fun tag => ?_⟩
  · obtain ⟨_, _, _, _, _, _, h⟩ := hT.wm; exact h
  · have h1 := hW tag
    constructor
    · intro hm
      cases hl : look wkv tag with
      | none => exact absurd hm (look_none hl)
      | some v =>
        obtain ⟨l, x, q1, _⟩ := hT.wsome tag v hl (by simp)
        refine Classical.byContradiction fun h3 => ?_
        rw [if_neg h3, q1] at h1; cases h1
    · intro ht
      cases hl : look wkv tag with
      | none => rw [hT.wnone tag hl, if_pos ht] at h1; cases h1
      | some v => exact List.mem_map.2 ⟨_, look_mem hl, rfl⟩

def S15 : Spec := fun args h K => ∃ h0 gt gm F bt bm window need E vt tags, args = [.pointer (some ⟨bt, 0, none⟩), .pointer (some ⟨bm, 0, none⟩), vt] ∧ K2 h0 h gt gm F ∧ TrO gt bt window need E ∧ RT gm bm window need E ∧ Sl encT F vt tags ∧
  MOkE window need E ∧ (∀ t ∈ tags, t.length ≤ 1000000) ∧ tags.length ≤ 1000000 ∧ ∀ h', Heap.le h0 h' → K (.bool true) h'
theorem F15_ok {N : Num} {Γ : Ctx} [GoodC Γ] (H30 : Sat (S30 N) (Γ 30)) (H52 : Sat S52 (Γ 52)) (H19 : Sat (S19 N) (Γ 19)) (H50 : Sat S50 (Γ 50)) (H53 : Sat S53 (Γ 53)) (H54 : Sat (S54 N) (Γ 54)) (H55 : Sat S55 (Γ 55)) (H14 : Sat S14 (Γ 14)) : Sat S15 (SF N Γ F15) := by
  rintro _ h K ⟨h0, gt, gm, F, bt, bm, window, need, E, vt, tags, rfl, hk, hT, hM, hv, hm, htl, htn, hK⟩
  have hEl : E.length ≤ 1000 := (hM.read hk.lm).choose_spec.choose_spec.2.2.1
  refine i_fun rfl ?_
  simp only [F15, env0, List.map, List.length, List.replicate, List.cons_append, List.nil_append, Nat.reduceSub, Nat.reduceAdd]
  try simp (disch := first | omega | (simp only [PL]; omega)) only [PS, P1, P2, P3, P4, P5, P6, P7, P8, PA, PB, PC, Nat.reduceAdd, Nat.reduceSub, Nat.reduceMul, Nat.reduceLeDiff, Nat.reduceEqDiff, Nat.succ_ne_self, reduceCtorEq, Int.reduceToNat, Int.cast_ofNat_Int, Int.reduceEq, Int.reduceNe, Int.reduceLT, Int.reduceLE]
  refine i_newO fun b3 h1 hle1 hb3 ho3 => ?_
  have hk1 := hk.freeze hle1
  try simp (disch := first | omega | (simp only [PL]; omega)) only [PS, P1, P2, P3, P4, P5, P6, P7, P8, PA, PB, PC, Nat.reduceAdd, Nat.reduceSub, Nat.reduceMul, Nat.reduceLeDiff, Nat.reduceEqDiff, Nat.succ_ne_self, reduceCtorEq, Int.reduceToNat, Int.cast_ofNat_Int, Int.reduceEq, Int.reduceNe, Int.reduceLT, Int.reduceLE]
  refine i_newO fun b4 h2 hle2 hb4 ho4 => ?_
  have hk2 := hk1.freeze hle2
  have hv1 : Sl encT (join F (fr h h1)) vt tags := hv.le (join_l _ _)
  have ho3' : objAt (join F (fr h h1)) ⟨b3, 0, none⟩ [.pointer (some ⟨bm, 0, none⟩)] := ho3.le (join_r (hk.lF.trans hle1) (fr_le _ _))
  obtain ⟨F1, hF1⟩ : ∃ F1, F1 = join F (fr h h1) := ⟨_, rfl⟩
  rw [← hF1] at hv1 ho3' hk1 hk2
  have hkA : K2 h0 h2 gt gm F1 := hk1.more hle2
  have ho4' : objAt (fr h1 h2) ⟨b4, 0, none⟩ [.bool false] := ho4
  try simp (disch := first | omega | (simp only [PL]; omega)) only [PS, P1, P2, P3, P4, P5, P6, P7, P8, PA, PB, PC, Nat.reduceAdd, Nat.reduceSub, Nat.reduceMul, Nat.reduceLeDiff, Nat.reduceEqDiff, Nat.succ_ne_self, reduceCtorEq, Int.reduceToNat, Int.cast_ofNat_Int, Int.reduceEq, Int.reduceNe, Int.reduceLT, Int.reduceLE]
  -- the first part: whatever the model looks up
  refine i_meet_blk (fun env H => ∃ gm' F2, K2 h0 H gt gm' F2 ∧ RT gm' bm window need E ∧ Heap.le F1 F2 ∧ objAt F2 ⟨b4, 0, none⟩ [.bool false] ∧
    env = [some (.pointer (some ⟨bt, 0, none⟩)), some (.pointer (some ⟨bm, 0, none⟩)), some vt, some (.pointer (some ⟨b3, 0, none⟩)), some (.pointer (some ⟨b4, 0, none⟩)), none, none, none, none, none, none, none, none, none, none, none, none, none, none, none, none, none, none, none, none, none, none, none, none, none, none, none, none, none, none, none]) ?_ ?_
  rotate_left
  · have hF2 : Heap.le F1 (join F1 (fr h1 h2)) := join_l _ _
    have ho42 : objAt (join F1 (fr h1 h2)) ⟨b4, 0, none⟩ [.bool false] := ho4'.le (join_r (hk1.lF.trans hle2) (fr_le _ _))
    generalize join F1 (fr h1 h2) = F2 at *
    have hv2 := hv1.le hF2
    have ho32 := ho3'.le hF2
    have RV := fun H (hl : Heap.le F2 H) => (hv2.le hl).rules1 (fun s => .string (str s)) (fun _ => rfl) default
    have A3 := fun H (hl : Heap.le F2 H) => ((ho32.le hl).rules.2.1 (by simp) : H.cell ⟨b3, 0, none⟩ = some (.pointer (some ⟨bm, 0, none⟩)))
    refine i_loop (fun i : Nat => [some (.pointer (some ⟨bt, 0, none⟩)), some (.pointer (some ⟨bm, 0, none⟩)), some vt, some (.pointer (some ⟨b3, 0, none⟩)), some (.pointer (some ⟨b4, 0, none⟩)), some (.int .i64 i), none, none, none, none, none, none, none, none, none, none, none, none, none, none, none, none, none, none, none, none, none, none, none, none, none, none, none, none, none, none]) (fun i H => i ≤ tags.length ∧ ∃ gm', K2 h0 H gt gm' F2 ∧ RT gm' bm window need E) (fun i => tags.length - i) 0 (by try simp only [Pe, and_true, true_and, and_self]; rfl) ⟨by omega, gm, hk2, hM⟩ ?_
    rintro i H ⟨hi, gm1, kH, hM1⟩
    have RVH := RV H kH.lF
    try simp (disch := first | omega | (simp only [PL]; omega)) only [PS, P1, P2, P3, P4, P5, P6, P7, P8, PA, PB, PC, Nat.reduceAdd, Nat.reduceSub, Nat.reduceMul, Nat.reduceLeDiff, Nat.reduceEqDiff, Nat.succ_ne_self, reduceCtorEq, Int.reduceToNat, Int.cast_ofNat_Int, Int.reduceEq, Int.reduceNe, Int.reduceLT, Int.reduceLE, RVH]
    refine i_cond (fun c1 => ?_) (fun c1 => ?_)
    rotate_left
    · try simp (disch := first | omega | (simp only [PL]; omega)) only [PS, P1, P2, P3, P4, P5, P6, P7, P8, PA, PB, PC, Nat.reduceAdd, Nat.reduceSub, Nat.reduceMul, Nat.reduceLeDiff, Nat.reduceEqDiff, Nat.succ_ne_self, reduceCtorEq, Int.reduceToNat, Int.cast_ofNat_Int, Int.reduceEq, Int.reduceNe, Int.reduceLT, Int.reduceLE]
      exact k_meet _ (by try simp only [Pe, and_true, true_and, and_self]) ⟨gm1, F2, kH, hM1, hF2, ho42, rfl⟩
    have hi2 : i < tags.length := by omega
    have htg := htl _ (getD_mem default hi2)
    try simp (disch := first | omega | (simp only [PL]; omega)) only [PS, P1, P2, P3, P4, P5, P6, P7, P8, PA, PB, PC, Nat.reduceAdd, Nat.reduceSub, Nat.reduceMul, Nat.reduceLeDiff, Nat.reduceEqDiff, Nat.succ_ne_self, reduceCtorEq, Int.reduceToNat, Int.cast_ofNat_Int, Int.reduceEq, Int.reduceNe, Int.reduceLT, Int.reduceLE]
    refine i_loop (fun e : Nat => [some (.pointer (some ⟨bt, 0, none⟩)), some (.pointer (some ⟨bm, 0, none⟩)), some vt, some (.pointer (some ⟨b3, 0, none⟩)), some (.pointer (some ⟨b4, 0, none⟩)), some (.int .i64 i), some (.int .i64 ((e : Int) - 1)), none, none, none, none, none, none, none, none, none, none, none, none, none, none, none, none, none, none, none, none, none, none, none, none, none, none, none, none, none]) (fun e H => e ≤ E.length + 2 ∧ ∃ gm', K2 h0 H gt gm' F2 ∧ RT gm' bm window need E) (fun e => E.length + 2 - e) 0 (by try simp only [Pe, and_true, true_and, and_self]; rfl) ⟨by omega, gm1, kH, hM1⟩ ?_
    clear RVH kH hM1
    rintro e H1 ⟨he, gm2, kH, hM2⟩
    have RVH := RV H1 kH.lF
    have A3H := A3 H1 kH.lF
    obtain ⟨evm, fvm, hom, ⟨vsm, hvm, hvml, _⟩, _⟩ := hM2.read kH.lm
    have Am : H1.cell ((⟨bm, 0, none⟩ : Addr).add 2) = some evm := hom.rules.1 2 (by simp)
    have Rm := hvm.rules1 id (fun _ => rfl) undef
    rw [hvml] at Rm
    try simp (disch := first | omega | (simp only [PL]; omega)) only [PS, P1, P2, P3, P4, P5, P6, P7, P8, PA, PB, PC, Nat.reduceAdd, Nat.reduceSub, Nat.reduceMul, Nat.reduceLeDiff, Nat.reduceEqDiff, Nat.succ_ne_self, reduceCtorEq, Int.reduceToNat, Int.cast_ofNat_Int, Int.reduceEq, Int.reduceNe, Int.reduceLT, Int.reduceLE, A3H, Am, Rm]
    refine i_cond (fun c2 => ?_) (fun c2 => ?_)
    rotate_left
    · try simp (disch := first | omega | (simp only [PL]; omega)) only [PS, P1, P2, P3, P4, P5, P6, P7, P8, PA, PB, PC, Nat.reduceAdd, Nat.reduceSub, Nat.reduceMul, Nat.reduceLeDiff, Nat.reduceEqDiff, Nat.succ_ne_self, reduceCtorEq, Int.reduceToNat, Int.cast_ofNat_Int, Int.reduceEq, Int.reduceNe, Int.reduceLT, Int.reduceLE]
      exact k_loop (i + 1) (by omega) (by try simp only [Pe, and_true, true_and, and_self]) ⟨by omega, gm2, kH, hM2⟩
    have hei : IntKind.i64.wrap ((e : Int) - 1 + 1) = ((e + 1 : Nat) : Int) - 1 := by rw [w64 (by omega) (by omega)]; omega
    try simp (disch := first | omega | (simp only [PL]; omega)) only [PS, P1, P2, P3, P4, P5, P6, P7, P8, PA, PB, PC, Nat.reduceAdd, Nat.reduceSub, Nat.reduceMul, Nat.reduceLeDiff, Nat.reduceEqDiff, Nat.succ_ne_self, reduceCtorEq, Int.reduceToNat, Int.cast_ofNat_Int, Int.reduceEq, Int.reduceNe, Int.reduceLT, Int.reduceLE, RVH, A3H]
    refine i_call H30 (S30_whr hT kH.lt ?_)
    try simp (disch := first | omega | (simp only [PL]; omega)) only [PS, P1, P2, P3, P4, P5, P6, P7, P8, PA, PB, PC, Nat.reduceAdd, Nat.reduceSub, Nat.reduceMul, Nat.reduceLeDiff, Nat.reduceEqDiff, Nat.succ_ne_self, reduceCtorEq, Int.reduceToNat, Int.cast_ofNat_Int, Int.reduceEq, Int.reduceNe, Int.reduceLT, Int.reduceLE, RVH, A3H]
    refine i_call H52 ⟨gm2, bm, window, need, E, _, _, rfl, hM2, kH.lm, hm, htg, fun gm3 H3 hS3 hM3 => ?_⟩
    have kH3 := kH.stepM hS3
    have RV3 := RV H3 kH3.lF
    have A33 := A3 H3 kH3.lF
    try simp (disch := first | omega | (simp only [PL]; omega)) only [PS, P1, P2, P3, P4, P5, P6, P7, P8, PA, PB, PC, Nat.reduceAdd, Nat.reduceSub, Nat.reduceMul, Nat.reduceLeDiff, Nat.reduceEqDiff, Nat.succ_ne_self, reduceCtorEq, Int.reduceToNat, Int.cast_ofNat_Int, Int.reduceEq, Int.reduceNe, Int.reduceLT, Int.reduceLE]
    refine i_call H19 ⟨_, _, rfl, ?_⟩
    rw [decide_eq_true rfl]
    try simp (disch := first | omega | (simp only [PL]; omega)) only [PS, P1, P2, P3, P4, P5, P6, P7, P8, PA, PB, PC, Nat.reduceAdd, Nat.reduceSub, Nat.reduceMul, Nat.reduceLeDiff, Nat.reduceEqDiff, Nat.succ_ne_self, reduceCtorEq, Int.reduceToNat, Int.cast_ofNat_Int, Int.reduceEq, Int.reduceNe, Int.reduceLT, Int.reduceLE]
    refine i_loop (fun x : Nat => [some (.pointer (some ⟨bt, 0, none⟩)), some (.pointer (some ⟨bm, 0, none⟩)), some vt, some (.pointer (some ⟨b3, 0, none⟩)), some (.pointer (some ⟨b4, 0, none⟩)), some (.int .i64 i), some (.int .i64 ((e : Int) - 1)), none, none, none, none, some (.int .i64 ((x : Int) - 1)), none, none, none, none, none, none, none, none, none, none, none, none, none, none, none, none, none, none, none, none, none, none, none, none]) (fun x H => x ≤ 9 ∧ ∃ gm', K2 h0 H gt gm' F2 ∧ RT gm' bm window need E) (fun x => 9 - x) 0 (by try simp only [Pe, and_true, true_and, and_self]; rfl) ⟨by omega, gm3, kH3, hM3⟩ ?_
    clear RVH A3H hvm hom Am Rm kH hM2 hS3 hM3 kH3 RV3 A33
    rintro x H4 ⟨hx, gm4, kH4, hM4⟩
    have RVH := RV H4 kH4.lF
    have A3H := A3 H4 kH4.lF
    have hxi : IntKind.i64.wrap ((x : Int) - 1 + 1) = ((x + 1 : Nat) : Int) - 1 := by rw [w64 (by omega) (by omega)]; omega
    try simp (disch := first | omega | (simp only [PL]; omega)) only [PS, P1, P2, P3, P4, P5, P6, P7, P8, PA, PB, PC, Nat.reduceAdd, Nat.reduceSub, Nat.reduceMul, Nat.reduceLeDiff, Nat.reduceEqDiff, Nat.succ_ne_self, reduceCtorEq, Int.reduceToNat, Int.cast_ofNat_Int, Int.reduceEq, Int.reduceNe, Int.reduceLT, Int.reduceLE]
    refine i_cond (fun c3 => ?_) (fun c3 => ?_)
    rotate_left
    · try simp (disch := first | omega | (simp only [PL]; omega)) only [PS, P1, P2, P3, P4, P5, P6, P7, P8, PA, PB, PC, Nat.reduceAdd, Nat.reduceSub, Nat.reduceMul, Nat.reduceLeDiff, Nat.reduceEqDiff, Nat.succ_ne_self, reduceCtorEq, Int.reduceToNat, Int.cast_ofNat_Int, Int.reduceEq, Int.reduceNe, Int.reduceLT, Int.reduceLE, hei]
      exact k_loop (e + 1) (by omega) (by try simp only [Pe, and_true, true_and, and_self]) ⟨by omega, gm4, kH4, hM4⟩
    try simp (disch := first | omega | (simp only [PL]; omega)) only [PS, P1, P2, P3, P4, P5, P6, P7, P8, PA, PB, PC, Nat.reduceAdd, Nat.reduceSub, Nat.reduceMul, Nat.reduceLeDiff, Nat.reduceEqDiff, Nat.succ_ne_self, reduceCtorEq, Int.reduceToNat, Int.cast_ofNat_Int, Int.reduceEq, Int.reduceNe, Int.reduceLT, Int.reduceLE, RVH, A3H]
    refine i_call H50 ⟨gt, bt, window, need, E, _, _, _, rfl, hT, kH4.lt, by omega, ?_⟩
    refine i_le (le_one (Heap.le.refl _)) ?_
    try simp (disch := first | omega | (simp only [PL]; omega)) only [PS, P1, P2, P3, P4, P5, P6, P7, P8, PA, PB, PC, Nat.reduceAdd, Nat.reduceSub, Nat.reduceMul, Nat.reduceLeDiff, Nat.reduceEqDiff, Nat.succ_ne_self, reduceCtorEq, Int.reduceToNat, Int.cast_ofNat_Int, Int.reduceEq, Int.reduceNe, Int.reduceLT, Int.reduceLE]
    refine i_call H53 ⟨gm4, bm, window, need, E, _, _, _, rfl, hM4, kH4.lm, hm, htg, fun gm5 H5 hS5 hM5 => ?_⟩
    have kH5 := kH4.stepM hS5
    try simp (disch := first | omega | (simp only [PL]; omega)) only [PS, P1, P2, P3, P4, P5, P6, P7, P8, PA, PB, PC, Nat.reduceAdd, Nat.reduceSub, Nat.reduceMul, Nat.reduceLeDiff, Nat.reduceEqDiff, Nat.succ_ne_self, reduceCtorEq, Int.reduceToNat, Int.cast_ofNat_Int, Int.reduceEq, Int.reduceNe, Int.reduceLT, Int.reduceLE, hxi]
    exact k_loop (x + 1) (by omega) (by try simp only [Pe, and_true, true_and, and_self]) ⟨by omega, gm5, kH5, hM5⟩
  rintro env H ⟨gm1, F2, kH, hM1, hF2, ho42, rfl⟩
  have ho32 := ho3'.le hF2
  try simp (disch := first | omega | (simp only [PL]; omega)) only [PS, P1, P2, P3, P4, P5, P6, P7, P8, PA, PB, PC, Nat.reduceAdd, Nat.reduceSub, Nat.reduceMul, Nat.reduceLeDiff, Nat.reduceEqDiff, Nat.succ_ne_self, reduceCtorEq, Int.reduceToNat, Int.cast_ofNat_Int, Int.reduceEq, Int.reduceNe, Int.reduceLT, Int.reduceLE]
  refine i_newO fun b5 H1 hle5 hb5 ho5 => ?_
  try simp (disch := first | omega | (simp only [PL]; omega)) only [PS, P1, P2, P3, P4, P5, P6, P7, P8, PA, PB, PC, Nat.reduceAdd, Nat.reduceSub, Nat.reduceMul, Nat.reduceLeDiff, Nat.reduceEqDiff, Nat.succ_ne_self, reduceCtorEq, Int.reduceToNat, Int.cast_ofNat_Int, Int.reduceEq, Int.reduceNe, Int.reduceLT, Int.reduceLE]
  have hob5 : objAt H1 ⟨b5, 0, none⟩ [.int .i64 0] := ho5.le (fr_le _ _)
  refine i_st (hob5) 0 1 rfl rfl (by omega) (by simp) fun o5 hob6 _ => ?_
  try simp (disch := first | omega | (simp only [PL]; omega)) only [PS, P1, P2, P3, P4, P5, P6, P7, P8, PA, PB, PC, Nat.reduceAdd, Nat.reduceSub, Nat.reduceMul, Nat.reduceLeDiff, Nat.reduceEqDiff, Nat.succ_ne_self, reduceCtorEq, Int.reduceToNat, Int.cast_ofNat_Int, Int.reduceEq, Int.reduceNe, Int.reduceLT, Int.reduceLE]
  have hF2b5 : F2 b5 = none := le_none kH.lF b5 hb5
  have hle6 : Heap.le H (H1.set b5 o5) := by
    intro x o hx
    have : x ≠ b5 := by intro e; subst e; rw [hb5] at hx; cases hx
    rw [Heap.set_ne this]; exact hle5 x o hx
  have kH2 := kH.more hle6
  have hob7 : objAt (H1.set b5 o5) ⟨b5, 0, none⟩ [.int .i64 0] := hob6 H1 rfl
  generalize H1.set b5 o5 = H2 at *
  have A3 := fun H (hl : Heap.le F2 H) => ((ho32.le hl).rules.2.1 (by simp) : H.cell ⟨b3, 0, none⟩ = some (.pointer (some ⟨bm, 0, none⟩)))
  refine i_call H54 ⟨_, rfl, fun b6 H3 hle7 ho6 => ?_⟩
  have kH3 := kH2.more hle7
  obtain ⟨mw, wkv, bs, ck, hmw, hMB, hnd, hkeys⟩ := hT.keys
  have hbsl : bs.length = wkv.length := by obtain ⟨_, _, _, h, _⟩ := hMB; exact h
  have hbsn : bs.Nodup := by obtain ⟨_, _, _, _, h, _⟩ := hMB; exact h
  have hwl : wkv.length = (tagsE E).length := by
    rw [← List.length_map (f := (·.1)) (as := wkv)]
    exact nodup_len hnd (tagsE_nodup E) fun x => (hkeys x).trans (mem_tagsE E x).symm
  have hfl := flatT_len E fun l hl => (hM1.read kH.lm).choose_spec.choose_spec.2.2.2 l hl
  have htl2 : (tagsE E).length ≤ 1000000 := by have := tagsOfL_len (flatT E); unfold tagsE; omega
  try simp (disch := first | omega | (simp only [PL]; omega)) only [PS, P1, P2, P3, P4, P5, P6, P7, P8, PA, PB, PC, Nat.reduceAdd, Nat.reduceSub, Nat.reduceMul, Nat.reduceLeDiff, Nat.reduceEqDiff, Nat.succ_ne_self, reduceCtorEq, Int.reduceToNat, Int.cast_ofNat_Int, Int.reduceEq, Int.reduceNe, Int.reduceLT, Int.reduceLE]
  refine i_rfn (ek := encKS) (ev := id) (c := ⟨b6, 0, none⟩) (a := ⟨bt, 0, none⟩) (kv := wkv) (bs := bs) (ck := ck) (mp := mw) rfl ((ho6.le (fr_le _ _)).rules.2.1 (by simp)) (hmw H3 kH3.lt)
    (fun dn G => Heap.le F2 G ∧ Heap.le gt G ∧ Heap.le gm1 G ∧ objAt G ⟨b5, 0, none⟩ [.int .i64 (dn.length : Nat)]) ⟨kH3.lF, kH3.lt, kH3.lm, hob7.le hle7⟩ (fun dn G hJ => hMB.le hJ.2.1) ?_ ?_
  · rintro dn G ⟨gF, gT, gM, gN⟩ hdn hds hall
    have hlen : dn.length = bs.length := nodup_len hdn hbsn fun x => ⟨hds x, hall x⟩
    have hR := hM1.read gM
    obtain ⟨evm, fvm, hom, ⟨vsm, hvm, hvml, _⟩, _⟩ := id hR
    have Am : G.cell ((⟨bm, 0, none⟩ : Addr).add 2) = some evm := hom.rules.1 2 (by simp)
    have Rm := hvm.rules1 id (fun _ => rfl) undef
    rw [hvml] at Rm
    have A3G := A3 G gF
    have A5 : G.cell ⟨b5, 0, none⟩ = some (.int .i64 (dn.length : Nat)) := gN.rules.2.1 (by simp)
    try simp (disch := first | omega | (simp only [PL]; omega)) only [PS, P1, P2, P3, P4, P5, P6, P7, P8, PA, PB, PC, Nat.reduceAdd, Nat.reduceSub, Nat.reduceMul, Nat.reduceLeDiff, Nat.reduceEqDiff, Nat.succ_ne_self, reduceCtorEq, Int.reduceToNat, Int.cast_ofNat_Int, Int.reduceEq, Int.reduceNe, Int.reduceLT, Int.reduceLE, A5, A3G, Am, Rm]
    refine i_call H14 ⟨⟨bm, 0, none⟩, window, need, E, E.length, rfl, hR, fun v14 G2 ho14 => ?_⟩
    rw [List.take_of_length_le (by omega)] at ho14
    have R14 := (ho14.sl (enc := encT) (fun _ => rfl)).rules1 (fun s => .string (str s)) (fun _ => rfl) default
    refine i_le (le_one ho14.1) ?_
    try simp (disch := first | omega | (simp only [PL]; omega)) only [PS, P1, P2, P3, P4, P5, P6, P7, P8, PA, PB, PC, Nat.reduceAdd, Nat.reduceSub, Nat.reduceMul, Nat.reduceLeDiff, Nat.reduceEqDiff, Nat.succ_ne_self, reduceCtorEq, Int.reduceToNat, Int.cast_ofNat_Int, Int.reduceEq, Int.reduceNe, Int.reduceLT, Int.reduceLE, R14]
    have hob4 : objAt G2 ⟨b4, 0, none⟩ [.bool false] := ho42.le (gF.trans ho14.1)
    refine i_st hob4 0 1 rfl rfl (by omega) (by simp) fun o4 hob8 _ => ?_
    have hdec : decide (((dn.length : Nat) : Int) = ((tagsE E).length : Int)) = true := by rw [decide_eq_true_eq]; omega
    have hob9 : objAt (G2.set b4 o4) ⟨b4, 0, none⟩ [.bool true] := by rw [← hdec]; exact hob8 G2 rfl
    have A4 : (G2.set b4 o4).cell ⟨b4, 0, none⟩ = some (.bool true) := hob9.rules.2.1 (by simp)
    try simp (disch := first | omega | (simp only [PL]; omega)) only [PS, P1, P2, P3, P4, P5, P6, P7, P8, PA, PB, PC, Nat.reduceAdd, Nat.reduceSub, Nat.reduceMul, Nat.reduceLeDiff, Nat.reduceEqDiff, Nat.succ_ne_self, reduceCtorEq, Int.reduceToNat, Int.cast_ofNat_Int, Int.reduceEq, Int.reduceNe, Int.reduceLT, Int.reduceLE, A4]
    refine hK _ ?_
    have h0b4 : h0 b4 = none := le_none (hk.le.trans hle1) b4 hb4
    intro x o hx
    have : x ≠ b4 := by intro e; subst e; rw [h0b4] at hx; cases hx
    rw [Heap.set_ne this]
    exact ho14.1 x o (gF x o (kH.hF x o hx))
  · rintro dn G j b key val ⟨gF, gT, gM, gN⟩ hdn hds hj hb hnb
    have htk : toldE E key := (hkeys key).1 (List.mem_map.2 ⟨_, List.mem_of_getElem? hj, rfl⟩)
    have hR := hM1.read gM
    obtain ⟨evm, fvm, hom, ⟨vsm, hvm, hvml, _⟩, _⟩ := id hR
    have Am : G.cell ((⟨bm, 0, none⟩ : Addr).add 2) = some evm := hom.rules.1 2 (by simp)
    have Rm := hvm.rules1 id (fun _ => rfl) undef
    rw [hvml] at Rm
    have A3G := A3 G gF
    have A5 : G.cell ⟨b5, 0, none⟩ = some (.int .i64 (dn.length : Nat)) := gN.rules.2.1 (by simp)
    have hdl : dn.length ≤ 1000000 := by
      have : dn.length ≤ bs.length := by
        have h1 : ∀ {l m : List Nat}, l.Nodup → (∀ x ∈ l, x ∈ m) → l.length ≤ m.length := by
          intro l
          induction l with
          | nil => intro m _ _; simp
          | cons a l ih =>
            intro m hn hs
            have hn' := List.nodup_cons.1 hn
            have ha := hs a (by simp)
            have := ih (m := m.erase a) hn'.2 fun x hx => by
              have : x ≠ a := by rintro rfl; exact hn'.1 hx
              exact (List.mem_erase_of_ne this).2 (hs x (by simp [hx]))
            rw [List.length_erase_of_mem ha] at this
            have := List.length_pos_of_mem ha
            simp; omega
        exact h1 hdn hds
      omega
    try simp (disch := first | omega | (simp only [PL]; omega)) only [PS, P1, P2, P3, P4, P5, P6, P7, P8, PA, PB, PC, Nat.reduceAdd, Nat.reduceSub, Nat.reduceMul, Nat.reduceLeDiff, Nat.reduceEqDiff, Nat.succ_ne_self, reduceCtorEq, Int.reduceToNat, Int.cast_ofNat_Int, Int.reduceEq, Int.reduceNe, Int.reduceLT, Int.reduceLE, rf_rules, encKS, A3G, Am, Rm]
    refine i_call H55 ⟨⟨bm, 0, none⟩, key, window, need, E, E.length, rfl, hR, ?_⟩
    rw [List.take_of_length_le (by omega), decide_eq_true htk]
    try simp (disch := first | omega | (simp only [PL]; omega)) only [PS, P1, P2, P3, P4, P5, P6, P7, P8, PA, PB, PC, Nat.reduceAdd, Nat.reduceSub, Nat.reduceMul, Nat.reduceLeDiff, Nat.reduceEqDiff, Nat.succ_ne_self, reduceCtorEq, Int.reduceToNat, Int.cast_ofNat_Int, Int.reduceEq, Int.reduceNe, Int.reduceLT, Int.reduceLE, rf_rules, A5]
    refine i_st gN 0 1 rfl rfl (by omega) (by simp) fun o7 hob8 _ => ?_
    have hob9 := hob8 G rfl
    try simp (disch := first | omega | (simp only [PL]; omega)) only [PS, P1, P2, P3, P4, P5, P6, P7, P8, PA, PB, PC, Nat.reduceAdd, Nat.reduceSub, Nat.reduceMul, Nat.reduceLeDiff, Nat.reduceEqDiff, Nat.succ_ne_self, reduceCtorEq, Int.reduceToNat, Int.cast_ofNat_Int, Int.reduceEq, Int.reduceNe, Int.reduceLT, Int.reduceLE, rf_rules]
    have hset : ∀ X : Heap, Heap.le X G → X b5 = none → Heap.le X (G.set b5 o7) := by
      intro X hX hn x o hx
      have : x ≠ b5 := by intro e; subst e; rw [hn] at hx; cases hx
      rw [Heap.set_ne this]; exact hX x o hx
    refine ⟨hset F2 gF hF2b5, hset gt gT (le_none kH.lt b5 hb5), hset gm1 gM (le_none kH.lm b5 hb5), ?_⟩
    rw [List.length_append]
    exact hob9
end Go.Cw
namespace Go.Cw
open Go

def S3 : Spec := fun args h K => ∃ w n v L other, args = [.int .i64 w, .int .i64 n, v, .string (str other)] ∧ SS h v L ∧ ∀ h', Heap.le h h' → K (.bool true) h'
theorem F3_ok {N : Num} {Γ : Ctx} [GoodC Γ] (H11 : Sat S11 (Γ 11)) (H12 : Sat S12t (Γ 12)) (H13 : Sat (S13 N) (Γ 13)) (H14 : Sat S14 (Γ 14)) (H15 : Sat S15 (Γ 15)) : Sat S3 (SF N Γ F3) := by
  rintro _ h K ⟨w, n, v, L, other, rfl, hL, hK⟩
  refine i_fun rfl ?_
  simp only [F3, env0, List.map, List.length, List.replicate, List.cons_append, List.nil_append, Nat.reduceSub, Nat.reduceAdd]
  try simp (disch := first | omega | (simp only [PL]; omega)) only [PS, P1, P2, P3, P4, P5, P6, P7, P8, PA, PB, PC, Nat.reduceAdd, Nat.reduceSub, Nat.reduceMul, Nat.reduceLeDiff, Nat.reduceEqDiff, Nat.succ_ne_self, reduceCtorEq, Int.reduceToNat, Int.cast_ofNat_Int, Int.reduceEq, Int.reduceNe, Int.reduceLT, Int.reduceLE]
  refine i_call H11 ⟨rfl, fun h1 hle1 => ?_⟩
  try simp (disch := first | omega | (simp only [PL]; omega)) only [PS, P1, P2, P3, P4, P5, P6, P7, P8, PA, PB, PC, Nat.reduceAdd, Nat.reduceSub, Nat.reduceMul, Nat.reduceLeDiff, Nat.reduceEqDiff, Nat.succ_ne_self, reduceCtorEq, Int.reduceToNat, Int.cast_ofNat_Int, Int.reduceEq, Int.reduceNe, Int.reduceLT, Int.reduceLE]
  refine i_call H12 ⟨v, L, rfl, hL.le hle1, fun bb hbb => ?_⟩
  cases bb with
  | false =>
    try simp (disch := first | omega | (simp only [PL]; omega)) only [PS, P1, P2, P3, P4, P5, P6, P7, P8, PA, PB, PC, Nat.reduceAdd, Nat.reduceSub, Nat.reduceMul, Nat.reduceLeDiff, Nat.reduceEqDiff, Nat.succ_ne_self, reduceCtorEq, Int.reduceToNat, Int.cast_ofNat_Int, Int.reduceEq, Int.reduceNe, Int.reduceLT, Int.reduceLE]
    exact hK h1 hle1
  | true =>
  have hli := hbb rfl
  try simp (disch := first | omega | (simp only [PL]; omega)) only [PS, P1, P2, P3, P4, P5, P6, P7, P8, PA, PB, PC, Nat.reduceAdd, Nat.reduceSub, Nat.reduceMul, Nat.reduceLeDiff, Nat.reduceEqDiff, Nat.succ_ne_self, reduceCtorEq, Int.reduceToNat, Int.cast_ofNat_Int, Int.reduceEq, Int.reduceNe, Int.reduceLT, Int.reduceLE]
  refine i_cond (fun c1 => ?_) (fun c1 => ?_)
  · try simp (disch := first | omega | (simp only [PL]; omega)) only [PS, P1, P2, P3, P4, P5, P6, P7, P8, PA, PB, PC, Nat.reduceAdd, Nat.reduceSub, Nat.reduceMul, Nat.reduceLeDiff, Nat.reduceEqDiff, Nat.succ_ne_self, reduceCtorEq, Int.reduceToNat, Int.cast_ofNat_Int, Int.reduceEq, Int.reduceNe, Int.reduceLT, Int.reduceLE]
    exact hK h1 hle1
  try simp (disch := first | omega | (simp only [PL]; omega)) only [PS, P1, P2, P3, P4, P5, P6, P7, P8, PA, PB, PC, Nat.reduceAdd, Nat.reduceSub, Nat.reduceMul, Nat.reduceLeDiff, Nat.reduceEqDiff, Nat.succ_ne_self, reduceCtorEq, Int.reduceToNat, Int.cast_ofNat_Int, Int.reduceEq, Int.reduceNe, Int.reduceLT, Int.reduceLE]
  refine i_call H13 ⟨w, n, v, L, rfl, hL.le hle1, hli, fun hb h2 hle2 => ?_, fun hb bt bm H gt gm F hk hT hM => ?_⟩
  · try simp (disch := first | omega | (simp only [PL]; omega)) only [PS, P1, P2, P3, P4, P5, P6, P7, P8, PA, PB, PC, Nat.reduceAdd, Nat.reduceSub, Nat.reduceMul, Nat.reduceLeDiff, Nat.reduceEqDiff, Nat.succ_ne_self, reduceCtorEq, Int.reduceToNat, Int.cast_ofNat_Int, Int.reduceEq, Int.reduceNe, Int.reduceLT, Int.reduceLE]
    exact hK h2 (hle1.trans hle2)
  simp only [newBad] at hb
  have hR := hM.read hk.lm
  have hgE : ∀ l ∈ goodE L, isGood l ∧ l ∈ L := by
    intro l hl
    unfold goodE at hl
    obtain ⟨k1, k2⟩ := List.mem_filter.1 hl
    exact ⟨of_decide_eq_true k2, k1⟩
  have hEl : (goodE L).length ≤ 25 := by
    have := List.length_filter_le (fun l => decide (∀ s ∈ l, ¬ s.bad)) L
    have := hli.1.1
    unfold goodE; omega
  have hfl := flatT_len (goodE L) fun l hl => by have := hli.1.2 l (hgE l hl).2; omega
  have htl2 : (tagsE (goodE L)).length ≤ 500000 := by have := tagsOfL_len (flatT (goodE L)); unfold tagsE; omega
  have htag : ∀ t ∈ tagsE (goodE L), t.length ≤ 20 := by
    intro t ht
    obtain ⟨l, hl, s, hs, rfl⟩ := (mem_tagsE _ t).1 ht
    exact hli.2 l (hgE l hl).2 s hs
  obtain ⟨evm, fvm, hom, ⟨vsm, hvm, hvml, _⟩, _⟩ := id hR
  have Am : H.cell ((⟨bm, 0, none⟩ : Addr).add 2) = some evm := hom.rules.1 2 (by simp)
  have Rm := hvm.rules1 id (fun _ => rfl) undef
  rw [hvml] at Rm
  try simp (disch := first | omega | (simp only [PL]; omega)) only [PS, P1, P2, P3, P4, P5, P6, P7, P8, PA, PB, PC, Nat.reduceAdd, Nat.reduceSub, Nat.reduceMul, Nat.reduceLeDiff, Nat.reduceEqDiff, Nat.succ_ne_self, reduceCtorEq, Int.reduceToNat, Int.cast_ofNat_Int, Int.reduceEq, Int.reduceNe, Int.reduceLT, Int.reduceLE, Am, Rm]
  refine i_call H14 ⟨⟨bm, 0, none⟩, _, _, goodE L, (goodE L).length, rfl, hR, fun v14 H2 ho14 => ?_⟩
  rw [List.take_of_length_le (by omega)] at ho14
  try simp (disch := first | omega | (simp only [PL]; omega)) only [PS, P1, P2, P3, P4, P5, P6, P7, P8, PA, PB, PC, Nat.reduceAdd, Nat.reduceSub, Nat.reduceMul, Nat.reduceLeDiff, Nat.reduceEqDiff, Nat.succ_ne_self, reduceCtorEq, Int.reduceToNat, Int.cast_ofNat_Int, Int.reduceEq, Int.reduceNe, Int.reduceLT, Int.reduceLE]
  refine i_bslB encT 1 (fun _ => rfl) [other] rfl rfl (by simp [maxLen]) fun x1 b1 H3 hle3 hb1 hx1 hS1 => ?_
  have O2 := hS1.one
  try simp (disch := first | omega | (simp only [PL]; omega)) only [PS, P1, P2, P3, P4, P5, P6, P7, P8, PA, PB, PC, Nat.reduceAdd, Nat.reduceSub, Nat.reduceMul, Nat.reduceLeDiff, Nat.reduceEqDiff, Nat.succ_ne_self, reduceCtorEq, Int.reduceToNat, Int.cast_ofNat_Int, Int.reduceEq, Int.reduceNe, Int.reduceLT, Int.reduceLE]
  refine i_app1 (enc := encT) (fun _ => rfl) (l' := [other]) (by simp [encT, one]) (ho14.le hle3) (SlB.sl (enc := encT) (fun _ => rfl) (hS1.le (fr_le _ _))) (by simp; omega) fun v5 H4 ho5 => ?_
  try simp (disch := first | omega | (simp only [PL]; omega)) only [PS, P1, P2, P3, P4, P5, P6, P7, P8, PA, PB, PC, Nat.reduceAdd, Nat.reduceSub, Nat.reduceMul, Nat.reduceLeDiff, Nat.reduceEqDiff, Nat.succ_ne_self, reduceCtorEq, Int.reduceToNat, Int.cast_ofNat_Int, Int.reduceEq, Int.reduceNe, Int.reduceLT, Int.reduceLE]
  have hkF := hk.freeze ho5.1
  refine i_call H15 ⟨h1, gt, gm, _, bt, bm, _, _, goodE L, v5, tagsE (goodE L) ++ [other], rfl, hkF, hT, hM, (OwnS.slf2 (enc := encT) (fun _ => rfl) ho5).le (join_r (hk.lF.trans ho5.1) (fr_le _ _)), ⟨by omega, by omega, by omega, fun l hl => (hgE l hl).1⟩, fun t ht => ?_, by rw [List.length_append, List.length_singleton]; omega, fun H5 hle5 => ?_⟩
  · rw [List.mem_append, List.mem_singleton] at ht
    rcases ht with ht | rfl
    · have := htag t ht; omega
    · omega
  · try simp (disch := first | omega | (simp only [PL]; omega)) only [PS, P1, P2, P3, P4, P5, P6, P7, P8, PA, PB, PC, Nat.reduceAdd, Nat.reduceSub, Nat.reduceMul, Nat.reduceLeDiff, Nat.reduceEqDiff, Nat.succ_ne_self, reduceCtorEq, Int.reduceToNat, Int.cast_ofNat_Int, Int.reduceEq, Int.reduceNe, Int.reduceLT, Int.reduceLE]
    exact hK H5 (hle1.trans hle5)
end Go.Cw
/- Tags: what their bytes say. -/
namespace Go.Cw
open Go

structure Tg where
  kind : Int
  filter : Int
  part : Int
  company : Int
  ref : Int
  serial : Int
  deriving DecidableEq, Inhabited
def Tg.enc (t : Tg) : List Value := [.int .i64 t.kind, .int .i64 t.filter, .int .i64 t.part, .int .i64 t.company, .int .i64 t.ref, .int .i64 t.serial]
def Tg.zero : Tg := ⟨0, 0, 0, 0, 0, 0⟩
structure Pa where
  cb : Nat
  cd : Nat
  rb : Nat
  rd : Nat
  deriving DecidableEq, Inhabited
def Pa.enc (p : Pa) : List Value := [.int .i64 p.cb, .int .i64 p.cd, .int .i64 p.rb, .int .i64 p.rd]
def partsOf (p : Int) : Option Pa :=
  if p = 0 then some ⟨20, 6, 6, 1⟩ else if p = 1 then some ⟨17, 5, 9, 2⟩ else if p = 2 then some ⟨14, 4, 12, 3⟩ else if p = 3 then some ⟨10, 3, 16, 4⟩ else if p = 4 then some ⟨7, 2, 19, 5⟩ else if p = 5 then some ⟨4, 1, 22, 6⟩ else none
theorem partsOf_none {p : Int} : partsOf p = none ↔ p < 0 ∨ 6 ≤ p := by
  unfold partsOf
  repeat' split
  all_goals simp
  all_goals omega
theorem partsOf_some {p : Int} {a : Pa} (h : partsOf p = some a) : a.cb + a.rb = 26 ∧ 1 ≤ a.cd ∧ a.cd ≤ 6 ∧ 1 ≤ a.rd ∧ a.rd ≤ 6 ∧ 4 ≤ a.cb ∧ a.cb ≤ 20 ∧ 6 ≤ a.rb ∧ a.rb ≤ 22 := by
  unfold partsOf at h
  repeat' split at h
  all_goals first | (cases h; done) | (cases h; simp)
/-- is a tag none that may be? -/
def Tg.bad (t : Tg) : Prop := match partsOf t.part with
  | none => True
  | some a => t.kind < 1 ∨ 3 < t.kind ∨ t.filter < 0 ∨ 7 < t.filter ∨ t.serial < 0 ∨ 16777215 < t.serial ∨ t.company < 0 ∨ (10 ^ a.cd : Nat) ≤ t.company ∨ t.ref < 0 ∨ (10 ^ a.rd : Nat) ≤ t.ref
instance Tg.decBad (t : Tg) : Decidable t.bad := by unfold Tg.bad; split <;> infer_instance

/-- eight bytes as one number -/
def num (b : List UInt8) : Nat := b.foldl (fun a x => a * 256 + x.toNat) 0
theorem num_snoc (b : List UInt8) (x : UInt8) : num (b ++ [x]) = num b * 256 + x.toNat := by simp [num]
theorem num_lt (b : List UInt8) : num b < 256 ^ b.length := by
  induction b using snoc_ind with
  | h0 => simp [num]
  | hs b x ih =>
    have := x.toNat_lt
    rw [num_snoc, List.length_append, List.length_singleton, Nat.pow_succ]
    omega
def bitAt (b : List UInt8) (i : Nat) : Nat := (b.getD (i / 8) 0).toNat / 2 ^ (7 - i % 8) % 2
theorem mod256_bit (y : Nat) {s : Nat} (hs : s ≤ 7) : (y % 256) / 2 ^ s % 2 = y / 2 ^ s % 2 := by
  have : s = 0 ∨ s = 1 ∨ s = 2 ∨ s = 3 ∨ s = 4 ∨ s = 5 ∨ s = 6 ∨ s = 7 := by omega
  rcases this with rfl | rfl | rfl | rfl | rfl | rfl | rfl | rfl <;> simp only [Nat.reducePow] <;> omega
theorem byte_num {b : List UInt8} (hb : b.length = 8) {j : Nat} (hj : j < 8) : (b.getD j 0).toNat = num b / 2 ^ (56 - 8 * j) % 256 := by
  match b, hb with
  | [b0, b1, b2, b3, b4, b5, b6, b7], _ =>
    have h0 := b0.toNat_lt
    have h1 := b1.toNat_lt
    have h2 := b2.toNat_lt
    have h3 := b3.toNat_lt
    have h4 := b4.toNat_lt
    have h5 := b5.toNat_lt
    have h6 := b6.toNat_lt
    have h7 := b7.toNat_lt
    unfold num
    simp only [List.foldl_cons, List.foldl_nil]
    have : j = 0 ∨ j = 1 ∨ j = 2 ∨ j = 3 ∨ j = 4 ∨ j = 5 ∨ j = 6 ∨ j = 7 := by omega
    rcases this with rfl | rfl | rfl | rfl | rfl | rfl | rfl | rfl <;> simp only [List.getD_cons_zero, List.getD_cons_succ, Nat.reduceMul, Nat.reduceSub, Nat.reducePow] <;> omega
theorem bitAt_num {b : List UInt8} (hb : b.length = 8) {i : Nat} (hi : i < 64) : bitAt b i = num b / 2 ^ (63 - i) % 2 := by
  unfold bitAt
  rw [byte_num hb (show i / 8 < 8 by omega), mod256_bit _ (by omega), Nat.div_div_eq_div_mul, ← Nat.pow_add]
  congr 3; omega

/-- so many bits from a place on -/
def rdBits (b : List UInt8) (at_ : Nat) : Nat → Nat
  | 0 => 0
  | k + 1 => 2 * rdBits b at_ k + bitAt b (at_ + k)
theorem rdBits_num {b : List UInt8} (hb : b.length = 8) (at_ : Nat) : ∀ k, at_ + k ≤ 64 → rdBits b at_ k = num b / 2 ^ (64 - at_ - k) % 2 ^ k := by
  intro k
  induction k with
  | zero => intro _; simp [rdBits, Nat.mod_one]
  | succ k ih =>
    intro h
    rw [rdBits, ih (by omega), bitAt_num hb (by omega)]
    have e1 : 64 - at_ - k = (64 - at_ - (k + 1)) + 1 := by omega
    have e2 : 63 - (at_ + k) = 64 - at_ - (k + 1) := by omega
    rw [e1, e2, Nat.pow_succ, Nat.pow_succ, ← Nat.div_div_eq_div_mul, Nat.mul_comm (2 ^ k) 2, Nat.mod_mul]
    omega

def tagAt (n : Nat) (a : Pa) : Tg := ⟨((n / 2 ^ 56 : Nat) : Int) - 47, (n / 2 ^ 53 % 8 : Nat), (n / 2 ^ 50 % 8 : Nat), (n / 2 ^ (24 + a.rb) % 2 ^ a.cb : Nat), (n / 2 ^ 24 % 2 ^ a.rb : Nat), (n % 2 ^ 24 : Nat)⟩
/-- the tag of eight bytes -/
def tagOf (b : List UInt8) : Option Tg :=
  if b.length ≠ 8 then none else match partsOf (num b / 2 ^ 50 % 8 : Nat) with
    | none => none
    | some a => if (tagAt (num b) a).bad then none else some (tagAt (num b) a)
def kindOf (b : List UInt8) : Int := match tagOf b with
  | none => 0
  | some t => t.kind
theorem kindOf_range (b : List UInt8) : 0 ≤ kindOf b ∧ kindOf b ≤ 3 := by
  unfold kindOf
  cases h : tagOf b with
  | none => simp
  | some t =>
    unfold tagOf at h
    split at h
    · cases h
    · split at h
      · cases h
      · split at h <;> cases h
        rename_i hb
        unfold Tg.bad at hb
        split at hb
        · simp at hb
        · dsimp only; omega
end Go.Cw
namespace Go.Cw
open Go

theorem i_cal {N : Num} {Γ : Ctx} {S : Spec} {k : Nat} {us : List Value} {caps : Array Value} {h : Heap} {K : Value → Heap → Prop} (hs : Sat S (Γ k)) (hx : S (us ++ caps.toList) h K) : efW N Γ .cal (.func (.func (N.fid k)) #[] caps :: us) h K := ⟨k, rfl, rfl, hs _ _ _ hx⟩

def paV (p : Int) : Value := .agg ((partsOf p).elim [.int .i64 0, .int .i64 0, .int .i64 0, .int .i64 0] Pa.enc).toArray
def S79 : Spec := fun args h K => ∃ p, args = [.int .i64 p] ∧ K (.tuple #[paV p, .bool (partsOf p).isSome]) h
theorem F79_ok {N : Num} {Γ : Ctx} [GoodC Γ] : Sat S79 (SF N Γ F79) := by
  rintro _ h K ⟨p, rfl, hK⟩
  refine i_fun rfl ?_
  simp only [F79, env0, List.map, List.length, List.replicate, List.cons_append, List.nil_append, Nat.reduceSub, Nat.reduceAdd]
  unfold paV partsOf at hK
  try simp (disch := first | omega | (simp only [PL]; omega)) only [PS, P1, P2, P3, P4, P5, P6, P7, P8, PA, PB, PC, Nat.reduceAdd, Nat.reduceSub, Nat.reduceMul, Nat.reduceLeDiff, Nat.reduceEqDiff, Nat.succ_ne_self, reduceCtorEq, Int.reduceToNat, Int.cast_ofNat_Int, Int.reduceEq, Int.reduceNe, Int.reduceLT, Int.reduceLE]
  refine i_cond (fun c => ?_) (fun c => ?_)
  · rw [if_pos (by omega)] at hK
    try simp (disch := first | omega | (simp only [PL]; omega)) only [PS, P1, P2, P3, P4, P5, P6, P7, P8, PA, PB, PC, Nat.reduceAdd, Nat.reduceSub, Nat.reduceMul, Nat.reduceLeDiff, Nat.reduceEqDiff, Nat.succ_ne_self, reduceCtorEq, Int.reduceToNat, Int.cast_ofNat_Int, Int.reduceEq, Int.reduceNe, Int.reduceLT, Int.reduceLE]
    exact hK
  rw [if_neg (by omega)] at hK
  try simp (disch := first | omega | (simp only [PL]; omega)) only [PS, P1, P2, P3, P4, P5, P6, P7, P8, PA, PB, PC, Nat.reduceAdd, Nat.reduceSub, Nat.reduceMul, Nat.reduceLeDiff, Nat.reduceEqDiff, Nat.succ_ne_self, reduceCtorEq, Int.reduceToNat, Int.cast_ofNat_Int, Int.reduceEq, Int.reduceNe, Int.reduceLT, Int.reduceLE]
  refine i_cond (fun c => ?_) (fun c => ?_)
  · rw [if_pos (by omega)] at hK
    try simp (disch := first | omega | (simp only [PL]; omega)) only [PS, P1, P2, P3, P4, P5, P6, P7, P8, PA, PB, PC, Nat.reduceAdd, Nat.reduceSub, Nat.reduceMul, Nat.reduceLeDiff, Nat.reduceEqDiff, Nat.succ_ne_self, reduceCtorEq, Int.reduceToNat, Int.cast_ofNat_Int, Int.reduceEq, Int.reduceNe, Int.reduceLT, Int.reduceLE]
    exact hK
  rw [if_neg (by omega)] at hK
  try simp (disch := first | omega | (simp only [PL]; omega)) only [PS, P1, P2, P3, P4, P5, P6, P7, P8, PA, PB, PC, Nat.reduceAdd, Nat.reduceSub, Nat.reduceMul, Nat.reduceLeDiff, Nat.reduceEqDiff, Nat.succ_ne_self, reduceCtorEq, Int.reduceToNat, Int.cast_ofNat_Int, Int.reduceEq, Int.reduceNe, Int.reduceLT, Int.reduceLE]
  refine i_cond (fun c => ?_) (fun c => ?_)
  · rw [if_pos (by omega)] at hK
    try simp (disch := first | omega | (simp only [PL]; omega)) only [PS, P1, P2, P3, P4, P5, P6, P7, P8, PA, PB, PC, Nat.reduceAdd, Nat.reduceSub, Nat.reduceMul, Nat.reduceLeDiff, Nat.reduceEqDiff, Nat.succ_ne_self, reduceCtorEq, Int.reduceToNat, Int.cast_ofNat_Int, Int.reduceEq, Int.reduceNe, Int.reduceLT, Int.reduceLE]
    exact hK
  rw [if_neg (by omega)] at hK
  try simp (disch := first | omega | (simp only [PL]; omega)) only [PS, P1, P2, P3, P4, P5, P6, P7, P8, PA, PB, PC, Nat.reduceAdd, Nat.reduceSub, Nat.reduceMul, Nat.reduceLeDiff, Nat.reduceEqDiff, Nat.succ_ne_self, reduceCtorEq, Int.reduceToNat, Int.cast_ofNat_Int, Int.reduceEq, Int.reduceNe, Int.reduceLT, Int.reduceLE]
  refine i_cond (fun c => ?_) (fun c => ?_)
  · rw [if_pos (by omega)] at hK
    try simp (disch := first | omega | (simp only [PL]; omega)) only [PS, P1, P2, P3, P4, P5, P6, P7, P8, PA, PB, PC, Nat.reduceAdd, Nat.reduceSub, Nat.reduceMul, Nat.reduceLeDiff, Nat.reduceEqDiff, Nat.succ_ne_self, reduceCtorEq, Int.reduceToNat, Int.cast_ofNat_Int, Int.reduceEq, Int.reduceNe, Int.reduceLT, Int.reduceLE]
    exact hK
  rw [if_neg (by omega)] at hK
  try simp (disch := first | omega | (simp only [PL]; omega)) only [PS, P1, P2, P3, P4, P5, P6, P7, P8, PA, PB, PC, Nat.reduceAdd, Nat.reduceSub, Nat.reduceMul, Nat.reduceLeDiff, Nat.reduceEqDiff, Nat.succ_ne_self, reduceCtorEq, Int.reduceToNat, Int.cast_ofNat_Int, Int.reduceEq, Int.reduceNe, Int.reduceLT, Int.reduceLE]
  refine i_cond (fun c => ?_) (fun c => ?_)
  · rw [if_pos (by omega)] at hK
    try simp (disch := first | omega | (simp only [PL]; omega)) only [PS, P1, P2, P3, P4, P5, P6, P7, P8, PA, PB, PC, Nat.reduceAdd, Nat.reduceSub, Nat.reduceMul, Nat.reduceLeDiff, Nat.reduceEqDiff, Nat.succ_ne_self, reduceCtorEq, Int.reduceToNat, Int.cast_ofNat_Int, Int.reduceEq, Int.reduceNe, Int.reduceLT, Int.reduceLE]
    exact hK
  rw [if_neg (by omega)] at hK
  try simp (disch := first | omega | (simp only [PL]; omega)) only [PS, P1, P2, P3, P4, P5, P6, P7, P8, PA, PB, PC, Nat.reduceAdd, Nat.reduceSub, Nat.reduceMul, Nat.reduceLeDiff, Nat.reduceEqDiff, Nat.succ_ne_self, reduceCtorEq, Int.reduceToNat, Int.cast_ofNat_Int, Int.reduceEq, Int.reduceNe, Int.reduceLT, Int.reduceLE]
  refine i_cond (fun c => ?_) (fun c => ?_)
  · rw [if_pos (by omega)] at hK
    try simp (disch := first | omega | (simp only [PL]; omega)) only [PS, P1, P2, P3, P4, P5, P6, P7, P8, PA, PB, PC, Nat.reduceAdd, Nat.reduceSub, Nat.reduceMul, Nat.reduceLeDiff, Nat.reduceEqDiff, Nat.succ_ne_self, reduceCtorEq, Int.reduceToNat, Int.cast_ofNat_Int, Int.reduceEq, Int.reduceNe, Int.reduceLT, Int.reduceLE]
    exact hK
  rw [if_neg (by omega)] at hK
  try simp (disch := first | omega | (simp only [PL]; omega)) only [PS, P1, P2, P3, P4, P5, P6, P7, P8, PA, PB, PC, Nat.reduceAdd, Nat.reduceSub, Nat.reduceMul, Nat.reduceLeDiff, Nat.reduceEqDiff, Nat.succ_ne_self, reduceCtorEq, Int.reduceToNat, Int.cast_ofNat_Int, Int.reduceEq, Int.reduceNe, Int.reduceLT, Int.reduceLE]
  exact hK

def S117 : Spec := fun args h K => ∃ n : Nat, args = [.int .i64 n] ∧ n ≤ 18 ∧ K (.int .i64 (10 ^ n : Nat)) h
theorem F117_ok {N : Num} {Γ : Ctx} [GoodC Γ] : Sat S117 (SF N Γ F117) := by
  rintro _ h K ⟨n, rfl, hn, hK⟩
  refine i_fun rfl ?_
  simp only [F117, env0, List.map, List.length, List.replicate, List.cons_append, List.nil_append, Nat.reduceSub, Nat.reduceAdd]
  try simp (disch := first | omega | (simp only [PL]; omega)) only [PS, P1, P2, P3, P4, P5, P6, P7, P8, PA, PB, PC, Nat.reduceAdd, Nat.reduceSub, Nat.reduceMul, Nat.reduceLeDiff, Nat.reduceEqDiff, Nat.succ_ne_self, reduceCtorEq, Int.reduceToNat, Int.cast_ofNat_Int, Int.reduceEq, Int.reduceNe, Int.reduceLT, Int.reduceLE]
  refine i_loop (fun i : Nat => [some (.int .i64 n), some (.int .i64 0), some (.int .i64 (10 ^ i : Nat)), some (.int .i64 n), some (.int .i64 i), none]) (fun i h1 => h1 = h ∧ i ≤ n) (fun i => n - i) 0 (by rw [Nat.pow_zero]; try simp only [Pe, and_true, true_and, and_self]; exact ⟨rfl, rfl⟩) ⟨rfl, by omega⟩ ?_
  rintro i h1 ⟨rfl, hi⟩
  try simp (disch := first | omega | (simp only [PL]; omega)) only [PS, P1, P2, P3, P4, P5, P6, P7, P8, PA, PB, PC, Nat.reduceAdd, Nat.reduceSub, Nat.reduceMul, Nat.reduceLeDiff, Nat.reduceEqDiff, Nat.succ_ne_self, reduceCtorEq, Int.reduceToNat, Int.cast_ofNat_Int, Int.reduceEq, Int.reduceNe, Int.reduceLT, Int.reduceLE]
  refine i_cond (fun c => ?_) (fun c => ?_)
  · have hp : 10 ^ i * 10 ≤ 10 ^ 18 := by rw [← Nat.pow_succ]; exact Nat.pow_le_pow_right (by omega) (by omega)
    have hp2 : IntKind.i64.wrap (((10 ^ i : Nat) : Int) * 10) = ((10 ^ (i + 1) : Nat) : Int) := by
      rw [w64 (by omega) (by omega), Nat.pow_succ]; omega
    try simp (disch := first | omega | (simp only [PL]; omega)) only [PS, P1, P2, P3, P4, P5, P6, P7, P8, PA, PB, PC, Nat.reduceAdd, Nat.reduceSub, Nat.reduceMul, Nat.reduceLeDiff, Nat.reduceEqDiff, Nat.succ_ne_self, reduceCtorEq, Int.reduceToNat, Int.cast_ofNat_Int, Int.reduceEq, Int.reduceNe, Int.reduceLT, Int.reduceLE, hp2]
    exact k_loop (i + 1) (by omega) (by try simp only [Pe, and_true, true_and, and_self]) ⟨rfl, by omega⟩
  · have : i = n := by omega
    subst this
    try simp (disch := first | omega | (simp only [PL]; omega)) only [PS, P1, P2, P3, P4, P5, P6, P7, P8, PA, PB, PC, Nat.reduceAdd, Nat.reduceSub, Nat.reduceMul, Nat.reduceLeDiff, Nat.reduceEqDiff, Nat.succ_ne_self, reduceCtorEq, Int.reduceToNat, Int.cast_ofNat_Int, Int.reduceEq, Int.reduceNe, Int.reduceLT, Int.reduceLE]
    exact hK
def S107 : Spec := fun args h K => ∃ p, args = [.int .i64 p] ∧ ∀ h', Heap.le h h' → K (.tuple #[paV p, .bool (partsOf p).isSome]) h'
theorem F107_ok {N : Num} {Γ : Ctx} [GoodC Γ] : Sat S107 (SF N Γ F107) := by
  rintro _ h K ⟨p, rfl, hK⟩
  refine i_fun rfl ?_
  simp only [F107, env0, List.map, List.length, List.replicate, List.cons_append, List.nil_append, Nat.reduceSub, Nat.reduceAdd]
  try simp (disch := first | omega | (simp only [PL]; omega)) only [PS, P1, P2, P3, P4, P5, P6, P7, P8, PA, PB, PC, Nat.reduceAdd, Nat.reduceSub, Nat.reduceMul, Nat.reduceLeDiff, Nat.reduceEqDiff, Nat.succ_ne_self, reduceCtorEq, Int.reduceToNat, Int.cast_ofNat_Int, Int.reduceEq, Int.reduceNe, Int.reduceLT, Int.reduceLE]
  refine i_newO fun b h1 hle1 hb ho => ?_
  try simp (disch := first | omega | (simp only [PL]; omega)) only [PS, P1, P2, P3, P4, P5, P6, P7, P8, PA, PB, PC, Nat.reduceAdd, Nat.reduceSub, Nat.reduceMul, Nat.reduceLeDiff, Nat.reduceEqDiff, Nat.succ_ne_self, reduceCtorEq, Int.reduceToNat, Int.cast_ofNat_Int, Int.reduceEq, Int.reduceNe, Int.reduceLT, Int.reduceLE]
  have ho1 := ho.le (fr_le h h1)
  refine i_st ho1 0 24 rfl rfl (by omega) (Nat.le_refl 24) fun o hob _ => ?_
  have hob2 : objAt (h1.set b o) ⟨b, 0, none⟩ [.int .i64 20, .int .i64 6, .int .i64 6, .int .i64 1, .int .i64 17, .int .i64 5, .int .i64 9, .int .i64 2, .int .i64 14, .int .i64 4, .int .i64 12, .int .i64 3, .int .i64 10, .int .i64 3, .int .i64 16, .int .i64 4, .int .i64 7, .int .i64 2, .int .i64 19, .int .i64 5, .int .i64 4, .int .i64 1, .int .i64 22, .int .i64 6] := hob h1 rfl
  have hle2 : Heap.le h (h1.set b o) := by
    intro x ob hx
    have : x ≠ b := by intro e; subst e; rw [hb] at hx; cases hx
    rw [Heap.set_ne this]; exact hle1 x ob hx
  generalize h1.set b o = h2 at *
  have hrow := hob2.row
  have hK2 := hK h2 hle2
  clear hK
  try simp (disch := first | omega | (simp only [PL]; omega)) only [PS, P1, P2, P3, P4, P5, P6, P7, P8, PA, PB, PC, Nat.reduceAdd, Nat.reduceSub, Nat.reduceMul, Nat.reduceLeDiff, Nat.reduceEqDiff, Nat.succ_ne_self, reduceCtorEq, Int.reduceToNat, Int.cast_ofNat_Int, Int.reduceEq, Int.reduceNe, Int.reduceLT, Int.reduceLE]
  refine i_cond (fun c => ?_) (fun c => ?_)
  · have hn := partsOf_none.2 (show p < 0 ∨ 6 ≤ p by omega)
    unfold paV at hK2
    rw [hn] at hK2
    try simp (disch := first | omega | (simp only [PL]; omega)) only [PS, P1, P2, P3, P4, P5, P6, P7, P8, PA, PB, PC, Nat.reduceAdd, Nat.reduceSub, Nat.reduceMul, Nat.reduceLeDiff, Nat.reduceEqDiff, Nat.succ_ne_self, reduceCtorEq, Int.reduceToNat, Int.cast_ofNat_Int, Int.reduceEq, Int.reduceNe, Int.reduceLT, Int.reduceLE]
    exact hK2
  · have hp : p = 0 ∨ p = 1 ∨ p = 2 ∨ p = 3 ∨ p = 4 ∨ p = 5 := by omega
    have r0 := hrow.row (i := 0) (n := 4) (by simp)
    have r1 := hrow.row (i := 4) (n := 4) (by simp)
    have r2 := hrow.row (i := 8) (n := 4) (by simp)
    have r3 := hrow.row (i := 12) (n := 4) (by simp)
    have r4 := hrow.row (i := 16) (n := 4) (by simp)
    have r5 := hrow.row (i := 20) (n := 4) (by simp)
    have haa : ∀ (k : IntKind) (n : Nat), n < 6 → o2V h2 (.aadr 6 4) (.v (.pointer (some ⟨b, 0, none⟩))) (.v (.int k (n : Int))) = some (.v (.pointer (some ((⟨b, 0, none⟩ : Addr).add (n * 4))))) := by
      intro k n hn
      have hb : inBounds (n : Int) 6 = true := by simp [inBounds]; omega
      simp only [o2V, hb, if_true, Int.toNat_natCast]
    rcases hp with rfl | rfl | rfl | rfl | rfl | rfl
    · have := haa .i64 0 (by omega)
      try simp (disch := first | omega | (simp only [PL]; omega)) only [PS, P1, P2, P3, P4, P5, P6, P7, P8, PA, PB, PC, Nat.reduceAdd, Nat.reduceSub, Nat.reduceMul, Nat.reduceLeDiff, Nat.reduceEqDiff, Nat.succ_ne_self, reduceCtorEq, Int.reduceToNat, Int.cast_ofNat_Int, Int.reduceEq, Int.reduceNe, Int.reduceLT, Int.reduceLE, this, r0]
      exact hK2
    · have := haa .i64 1 (by omega)
      try simp (disch := first | omega | (simp only [PL]; omega)) only [PS, P1, P2, P3, P4, P5, P6, P7, P8, PA, PB, PC, Nat.reduceAdd, Nat.reduceSub, Nat.reduceMul, Nat.reduceLeDiff, Nat.reduceEqDiff, Nat.succ_ne_self, reduceCtorEq, Int.reduceToNat, Int.cast_ofNat_Int, Int.reduceEq, Int.reduceNe, Int.reduceLT, Int.reduceLE, this, r1]
      exact hK2
    · have := haa .i64 2 (by omega)
      try simp (disch := first | omega | (simp only [PL]; omega)) only [PS, P1, P2, P3, P4, P5, P6, P7, P8, PA, PB, PC, Nat.reduceAdd, Nat.reduceSub, Nat.reduceMul, Nat.reduceLeDiff, Nat.reduceEqDiff, Nat.succ_ne_self, reduceCtorEq, Int.reduceToNat, Int.cast_ofNat_Int, Int.reduceEq, Int.reduceNe, Int.reduceLT, Int.reduceLE, this, r2]
      exact hK2
    · have := haa .i64 3 (by omega)
      try simp (disch := first | omega | (simp only [PL]; omega)) only [PS, P1, P2, P3, P4, P5, P6, P7, P8, PA, PB, PC, Nat.reduceAdd, Nat.reduceSub, Nat.reduceMul, Nat.reduceLeDiff, Nat.reduceEqDiff, Nat.succ_ne_self, reduceCtorEq, Int.reduceToNat, Int.cast_ofNat_Int, Int.reduceEq, Int.reduceNe, Int.reduceLT, Int.reduceLE, this, r3]
      exact hK2
    · have := haa .i64 4 (by omega)
      try simp (disch := first | omega | (simp only [PL]; omega)) only [PS, P1, P2, P3, P4, P5, P6, P7, P8, PA, PB, PC, Nat.reduceAdd, Nat.reduceSub, Nat.reduceMul, Nat.reduceLeDiff, Nat.reduceEqDiff, Nat.succ_ne_self, reduceCtorEq, Int.reduceToNat, Int.cast_ofNat_Int, Int.reduceEq, Int.reduceNe, Int.reduceLT, Int.reduceLE, this, r4]
      exact hK2
    · have := haa .i64 5 (by omega)
      try simp (disch := first | omega | (simp only [PL]; omega)) only [PS, P1, P2, P3, P4, P5, P6, P7, P8, PA, PB, PC, Nat.reduceAdd, Nat.reduceSub, Nat.reduceMul, Nat.reduceLeDiff, Nat.reduceEqDiff, Nat.succ_ne_self, reduceCtorEq, Int.reduceToNat, Int.cast_ofNat_Int, Int.reduceEq, Int.reduceNe, Int.reduceLT, Int.reduceLE, this, r5]
      exact hK2
end Go.Cw
namespace Go.Cw
open Go

def aggT (t : Tg) : Value := .agg #[.int .i64 t.kind, .int .i64 t.filter, .int .i64 t.part, .int .i64 t.company, .int .i64 t.ref, .int .i64 t.serial]
def faultT (t : Tg) : Nat := if t.bad then 1 else 0
theorem Tg.bad_none {t : Tg} (h : partsOf t.part = none) : t.bad := by unfold Tg.bad; rw [h]; trivial
theorem Tg.bad_some {t : Tg} {a : Pa} (h : partsOf t.part = some a) : t.bad ↔ (t.kind < 1 ∨ 3 < t.kind ∨ t.filter < 0 ∨ 7 < t.filter ∨ t.serial < 0 ∨ 16777215 < t.serial ∨ t.company < 0 ∨ (10 ^ a.cd : Nat) ≤ t.company ∨ t.ref < 0 ∨ (10 ^ a.rd : Nat) ≤ t.ref) := by unfold Tg.bad; rw [h]
theorem fault_bad {t : Tg} (h : t.bad) : faultT t = 1 := if_pos h
theorem fault_ok {t : Tg} (h : ¬ t.bad) : faultT t = 0 := if_neg h
def S128 : Spec := fun args h K => ∃ t : Tg, args = [aggT t] ∧ t.company ≤ 9223372036854775807 ∧ t.ref ≤ 9223372036854775807 ∧ ∀ h', Heap.le h h' → K (.int .i64 (faultT t : Nat)) h'
theorem F128_ok {N : Num} {Γ : Ctx} [GoodC Γ] (H79 : Sat S79 (Γ 79)) (H85 : Sat S85 (Γ 85)) : Sat S128 (SF N Γ F128) := by
  rintro _ h K ⟨t, rfl, hc, hr, hK⟩
  refine i_fun rfl ?_
  simp only [F128, env0, List.map, List.length, List.replicate, List.cons_append, List.nil_append, Nat.reduceSub, Nat.reduceAdd, aggT]
  try simp (disch := first | omega | (simp only [PL]; omega)) only [PS, P1, P2, P3, P4, P5, P6, P7, P8, PA, PB, PC, Nat.reduceAdd, Nat.reduceSub, Nat.reduceMul, Nat.reduceLeDiff, Nat.reduceEqDiff, Nat.succ_ne_self, reduceCtorEq, Int.reduceToNat, Int.cast_ofNat_Int, Int.reduceEq, Int.reduceNe, Int.reduceLT, Int.reduceLE]
  refine i_call H79 ⟨t.part, rfl, ?_⟩
  cases hp : partsOf t.part with
  | none =>
    rw [fault_bad (Tg.bad_none hp)] at hK
    simp only [paV, hp, Option.elim]
    try simp (disch := first | omega | (simp only [PL]; omega)) only [PS, P1, P2, P3, P4, P5, P6, P7, P8, PA, PB, PC, Nat.reduceAdd, Nat.reduceSub, Nat.reduceMul, Nat.reduceLeDiff, Nat.reduceEqDiff, Nat.succ_ne_self, reduceCtorEq, Int.reduceToNat, Int.cast_ofNat_Int, Int.reduceEq, Int.reduceNe, Int.reduceLT, Int.reduceLE]
    refine i_newO fun b h1 hle1 hb ho => ?_
    try simp (disch := first | omega | (simp only [PL]; omega)) only [PS, P1, P2, P3, P4, P5, P6, P7, P8, PA, PB, PC, Nat.reduceAdd, Nat.reduceSub, Nat.reduceMul, Nat.reduceLeDiff, Nat.reduceEqDiff, Nat.succ_ne_self, reduceCtorEq, Int.reduceToNat, Int.cast_ofNat_Int, Int.reduceEq, Int.reduceNe, Int.reduceLT, Int.reduceLE]
    refine i_st (ho.le (fr_le h h1)) 0 4 rfl rfl (by omega) (Nat.le_refl 4) fun o hob _ => ?_
    have hle2 : Heap.le h (h1.set b o) := by
      intro x ob hx
      have : x ≠ b := by intro e; subst e; rw [hb] at hx; cases hx
      rw [Heap.set_ne this]; exact hle1 x ob hx
    try simp (disch := first | omega | (simp only [PL]; omega)) only [PS, P1, P2, P3, P4, P5, P6, P7, P8, PA, PB, PC, Nat.reduceAdd, Nat.reduceSub, Nat.reduceMul, Nat.reduceLeDiff, Nat.reduceEqDiff, Nat.succ_ne_self, reduceCtorEq, Int.reduceToNat, Int.cast_ofNat_Int, Int.reduceEq, Int.reduceNe, Int.reduceLT, Int.reduceLE]
    exact hK _ hle2
  | some a =>
    have hbad := Tg.bad_some hp
    simp only [paV, hp, Option.elim, Pa.enc]
    try simp (disch := first | omega | (simp only [PL]; omega)) only [PS, P1, P2, P3, P4, P5, P6, P7, P8, PA, PB, PC, Nat.reduceAdd, Nat.reduceSub, Nat.reduceMul, Nat.reduceLeDiff, Nat.reduceEqDiff, Nat.succ_ne_self, reduceCtorEq, Int.reduceToNat, Int.cast_ofNat_Int, Int.reduceEq, Int.reduceNe, Int.reduceLT, Int.reduceLE]
    refine i_newO fun b h1 hle1 hb ho => ?_
    try simp (disch := first | omega | (simp only [PL]; omega)) only [PS, P1, P2, P3, P4, P5, P6, P7, P8, PA, PB, PC, Nat.reduceAdd, Nat.reduceSub, Nat.reduceMul, Nat.reduceLeDiff, Nat.reduceEqDiff, Nat.succ_ne_self, reduceCtorEq, Int.reduceToNat, Int.cast_ofNat_Int, Int.reduceEq, Int.reduceNe, Int.reduceLT, Int.reduceLE]
    refine i_st (ho.le (fr_le h h1)) 0 4 rfl rfl (by omega) (Nat.le_refl 4) fun o hob _ => ?_
    have hob2 : objAt (h1.set b o) ⟨b, 0, none⟩ [.int .i64 a.cb, .int .i64 a.cd, .int .i64 a.rb, .int .i64 a.rd] := hob h1 rfl
    have hle2 : Heap.le h (h1.set b o) := by
      intro x ob hx
      have : x ≠ b := by intro e; subst e; rw [hb] at hx; cases hx
      rw [Heap.set_ne this]; exact hle1 x ob hx
    generalize h1.set b o = h2 at *
    have B1 : h2.cell ((⟨b, 0, none⟩ : Addr).add 1) = some (.int .i64 a.cd) := hob2.rules.1 1 (by simp)
    have B3 := fun h3 (hl : Heap.le h2 h3) => ((hob2.le hl).rules.1 3 (by simp) : h3.cell ((⟨b, 0, none⟩ : Addr).add 3) = some (.int .i64 a.rd))
    have hpa := partsOf_some hp
    try simp (disch := first | omega | (simp only [PL]; omega)) only [PS, P1, P2, P3, P4, P5, P6, P7, P8, PA, PB, PC, Nat.reduceAdd, Nat.reduceSub, Nat.reduceMul, Nat.reduceLeDiff, Nat.reduceEqDiff, Nat.succ_ne_self, reduceCtorEq, Int.reduceToNat, Int.cast_ofNat_Int, Int.reduceEq, Int.reduceNe, Int.reduceLT, Int.reduceLE]
    refine i_cond (fun c1 => ?_) (fun c1 => ?_)
    · have := hK h2 hle2
      rw [fault_bad (hbad.2 (by omega))] at this
      try simp (disch := first | omega | (simp only [PL]; omega)) only [PS, P1, P2, P3, P4, P5, P6, P7, P8, PA, PB, PC, Nat.reduceAdd, Nat.reduceSub, Nat.reduceMul, Nat.reduceLeDiff, Nat.reduceEqDiff, Nat.succ_ne_self, reduceCtorEq, Int.reduceToNat, Int.cast_ofNat_Int, Int.reduceEq, Int.reduceNe, Int.reduceLT, Int.reduceLE]
      exact this
    have hbad2 : t.bad ↔ (t.company < 0 ∨ (10 ^ a.cd : Nat) ≤ t.company ∨ t.ref < 0 ∨ (10 ^ a.rd : Nat) ≤ t.ref) := by rw [hbad]; omega
    clear hbad
    try simp (disch := first | omega | (simp only [PL]; omega)) only [PS, P1, P2, P3, P4, P5, P6, P7, P8, PA, PB, PC, Nat.reduceAdd, Nat.reduceSub, Nat.reduceMul, Nat.reduceLeDiff, Nat.reduceEqDiff, Nat.succ_ne_self, reduceCtorEq, Int.reduceToNat, Int.cast_ofNat_Int, Int.reduceEq, Int.reduceNe, Int.reduceLT, Int.reduceLE, B1]
    by_cases hc0 : t.company < 0
    · have hc1 : (t.company < 0) = True := by simpa using hc0
      try simp (disch := first | omega | (simp only [PL]; omega)) only [PS, P1, P2, P3, P4, P5, P6, P7, P8, PA, PB, PC, Nat.reduceAdd, Nat.reduceSub, Nat.reduceMul, Nat.reduceLeDiff, Nat.reduceEqDiff, Nat.succ_ne_self, reduceCtorEq, Int.reduceToNat, Int.cast_ofNat_Int, Int.reduceEq, Int.reduceNe, Int.reduceLT, Int.reduceLE, hc1]
      refine i_le (le_one (Heap.le.refl _)) ?_
      try simp (disch := first | omega | (simp only [PL]; omega)) only [PS, P1, P2, P3, P4, P5, P6, P7, P8, PA, PB, PC, Nat.reduceAdd, Nat.reduceSub, Nat.reduceMul, Nat.reduceLeDiff, Nat.reduceEqDiff, Nat.succ_ne_self, reduceCtorEq, Int.reduceToNat, Int.cast_ofNat_Int, Int.reduceEq, Int.reduceNe, Int.reduceLT, Int.reduceLE]
      refine i_le (le_two (Heap.le.refl _) (Heap.le.refl _)) ?_
      have := hK h2 hle2
      rw [fault_bad (hbad2.2 (by omega))] at this
      try simp (disch := first | omega | (simp only [PL]; omega)) only [PS, P1, P2, P3, P4, P5, P6, P7, P8, PA, PB, PC, Nat.reduceAdd, Nat.reduceSub, Nat.reduceMul, Nat.reduceLeDiff, Nat.reduceEqDiff, Nat.succ_ne_self, reduceCtorEq, Int.reduceToNat, Int.cast_ofNat_Int, Int.reduceEq, Int.reduceNe, Int.reduceLT, Int.reduceLE]
      exact this
    · have hc1 : (t.company < 0) = False := by simpa using hc0
      obtain ⟨nc, hnc⟩ : ∃ n : Nat, t.company = n := ⟨t.company.toNat, by omega⟩
      rw [hnc] at hc hc1 hbad2 ⊢
      have hdc := dec_le_iff (n := nc) (show 0 < a.cd by omega)
      have haa : ∀ h (k : IntKind), o2V h (.aadr 4 1) (.v (.pointer (some ⟨b, 0, none⟩))) (.v (.int k 1)) = some (.v (.pointer (some ((⟨b, 0, none⟩ : Addr).add 1)))) := fun h k => rfl
      have haa3 : ∀ h (k : IntKind), o2V h (.aadr 4 1) (.v (.pointer (some ⟨b, 0, none⟩))) (.v (.int k 3)) = some (.v (.pointer (some ((⟨b, 0, none⟩ : Addr).add 3)))) := fun h k => rfl
      try simp (disch := first | omega | (simp only [PL]; omega)) only [PS, P1, P2, P3, P4, P5, P6, P7, P8, PA, PB, PC, Nat.reduceAdd, Nat.reduceSub, Nat.reduceMul, Nat.reduceLeDiff, Nat.reduceEqDiff, Nat.succ_ne_self, reduceCtorEq, Int.reduceToNat, Int.cast_ofNat_Int, Int.reduceEq, Int.reduceNe, Int.reduceLT, Int.reduceLE, hc1, haa, B1]
      refine i_call H85 ⟨nc, rfl, by omega, fun h3 hle3 => ?_⟩
      have B3' := B3 h3 hle3
      refine i_le (le_one hle3) ?_
      by_cases hbad3 : 10 ^ a.cd ≤ nc ∨ t.ref < 0
      · have hcond : (((a.cd : Int) < ((dec nc).length : Int)) ∨ t.ref < 0) = True := by
          rw [eq_iff_iff]; simp only [iff_true]
          rcases hbad3 with h | h
          · exact .inl (by have := mt hdc.1 (by omega); omega)
          · exact .inr h
        try simp (disch := first | omega | (simp only [PL]; omega)) only [PS, P1, P2, P3, P4, P5, P6, P7, P8, PA, PB, PC, Nat.reduceAdd, Nat.reduceSub, Nat.reduceMul, Nat.reduceLeDiff, Nat.reduceEqDiff, Nat.succ_ne_self, reduceCtorEq, Int.reduceToNat, Int.cast_ofNat_Int, Int.reduceEq, Int.reduceNe, Int.reduceLT, Int.reduceLE, hcond]
        refine i_le (le_two (Heap.le.refl _) hle3) ?_
        have := hK h3 (hle2.trans hle3)
        rw [fault_bad (hbad2.2 (by omega))] at this
        try simp (disch := first | omega | (simp only [PL]; omega)) only [PS, P1, P2, P3, P4, P5, P6, P7, P8, PA, PB, PC, Nat.reduceAdd, Nat.reduceSub, Nat.reduceMul, Nat.reduceLeDiff, Nat.reduceEqDiff, Nat.succ_ne_self, reduceCtorEq, Int.reduceToNat, Int.cast_ofNat_Int, Int.reduceEq, Int.reduceNe, Int.reduceLT, Int.reduceLE]
        exact this
      · have hcond : (((a.cd : Int) < ((dec nc).length : Int)) ∨ t.ref < 0) = False := by
          rw [eq_iff_iff]; simp only [iff_false]
          rintro (h | h)
          · exact absurd (hdc.2 (by omega)) (by omega)
          · omega
        obtain ⟨nr, hnr⟩ : ∃ n : Nat, t.ref = n := ⟨t.ref.toNat, by omega⟩
        rw [hnr] at hr hcond hbad2 ⊢
        have hdr := dec_le_iff (n := nr) (show 0 < a.rd by omega)
        try simp (disch := first | omega | (simp only [PL]; omega)) only [PS, P1, P2, P3, P4, P5, P6, P7, P8, PA, PB, PC, Nat.reduceAdd, Nat.reduceSub, Nat.reduceMul, Nat.reduceLeDiff, Nat.reduceEqDiff, Nat.succ_ne_self, reduceCtorEq, Int.reduceToNat, Int.cast_ofNat_Int, Int.reduceEq, Int.reduceNe, Int.reduceLT, Int.reduceLE, hcond, haa3, B3']
        refine i_call H85 ⟨nr, rfl, by omega, fun h4 hle4 => ?_⟩
        refine i_le (le_two hle4 (hle3.trans hle4)) ?_
        try simp (disch := first | omega | (simp only [PL]; omega)) only [PS, P1, P2, P3, P4, P5, P6, P7, P8, PA, PB, PC, Nat.reduceAdd, Nat.reduceSub, Nat.reduceMul, Nat.reduceLeDiff, Nat.reduceEqDiff, Nat.succ_ne_self, reduceCtorEq, Int.reduceToNat, Int.cast_ofNat_Int, Int.reduceEq, Int.reduceNe, Int.reduceLT, Int.reduceLE]
        refine i_cond (fun c2 => ?_) (fun c2 => ?_)
        · have := hK h4 (hle2.trans (hle3.trans hle4))
          rw [fault_bad (hbad2.2 (by have := mt hdr.2 (by omega); omega))] at this
          try simp (disch := first | omega | (simp only [PL]; omega)) only [PS, P1, P2, P3, P4, P5, P6, P7, P8, PA, PB, PC, Nat.reduceAdd, Nat.reduceSub, Nat.reduceMul, Nat.reduceLeDiff, Nat.reduceEqDiff, Nat.succ_ne_self, reduceCtorEq, Int.reduceToNat, Int.cast_ofNat_Int, Int.reduceEq, Int.reduceNe, Int.reduceLT, Int.reduceLE]
          exact this
        · have := hK h4 (hle2.trans (hle3.trans hle4))
          rw [fault_ok (fun h => by have := hbad2.1 h; have := hdr.1 (by omega); omega)] at this
          try simp (disch := first | omega | (simp only [PL]; omega)) only [PS, P1, P2, P3, P4, P5, P6, P7, P8, PA, PB, PC, Nat.reduceAdd, Nat.reduceSub, Nat.reduceMul, Nat.reduceLeDiff, Nat.reduceEqDiff, Nat.succ_ne_self, reduceCtorEq, Int.reduceToNat, Int.cast_ofNat_Int, Int.reduceEq, Int.reduceNe, Int.reduceLT, Int.reduceLE]
          exact this
end Go.Cw
namespace Go.Cw
open Go

def S108 (N : Num) : Spec := fun args h K => ∃ t : Tg, args = [aggT t] ∧ ∀ h', Heap.le h h' → K (errV N (faultT t)) h'
theorem F108_ok {N : Num} {Γ : Ctx} [GoodC Γ] (H107 : Sat S107 (Γ 107)) (H117 : Sat S117 (Γ 117)) : Sat (S108 N) (SF N Γ F108) := by
  rintro _ h K ⟨t, rfl, hK⟩
  have hK1 : t.bad → ∀ h', Heap.le h h' → K (.iface (N.tid 111) (.int .i64 1)) h' := fun hb h' hl => by have := hK h' hl; rw [fault_bad hb, errV_succ] at this; exact this
  have hK0 : ¬ t.bad → ∀ h', Heap.le h h' → K .nilIface h' := fun hb h' hl => by have := hK h' hl; rw [fault_ok hb] at this; exact this
  clear hK
  refine i_fun rfl ?_
  simp only [F108, env0, List.map, List.length, List.replicate, List.cons_append, List.nil_append, Nat.reduceSub, Nat.reduceAdd, aggT]
  have hsome := fun a => Tg.bad_some (t := t) (a := a)
  try simp (disch := first | omega | (simp only [PL]; omega)) only [PS, P1, P2, P3, P4, P5, P6, P7, P8, PA, PB, PC, Nat.reduceAdd, Nat.reduceSub, Nat.reduceMul, Nat.reduceLeDiff, Nat.reduceEqDiff, Nat.succ_ne_self, reduceCtorEq, Int.reduceToNat, Int.cast_ofNat_Int, Int.reduceEq, Int.reduceNe, Int.reduceLT, Int.reduceLE]
  refine i_cond (fun c1 => ?_) (fun c1 => ?_)
  · try simp (disch := first | omega | (simp only [PL]; omega)) only [PS, P1, P2, P3, P4, P5, P6, P7, P8, PA, PB, PC, Nat.reduceAdd, Nat.reduceSub, Nat.reduceMul, Nat.reduceLeDiff, Nat.reduceEqDiff, Nat.succ_ne_self, reduceCtorEq, Int.reduceToNat, Int.cast_ofNat_Int, Int.reduceEq, Int.reduceNe, Int.reduceLT, Int.reduceLE]
    refine hK1 ?_ h (Heap.le.refl h)
    cases hp : partsOf t.part with
    | none => exact Tg.bad_none hp
    | some a => exact (hsome a hp).2 (by omega)
  try simp (disch := first | omega | (simp only [PL]; omega)) only [PS, P1, P2, P3, P4, P5, P6, P7, P8, PA, PB, PC, Nat.reduceAdd, Nat.reduceSub, Nat.reduceMul, Nat.reduceLeDiff, Nat.reduceEqDiff, Nat.succ_ne_self, reduceCtorEq, Int.reduceToNat, Int.cast_ofNat_Int, Int.reduceEq, Int.reduceNe, Int.reduceLT, Int.reduceLE]
  refine i_call H107 ⟨t.part, rfl, fun h1 hle1 => ?_⟩
  cases hp : partsOf t.part with
  | none =>
    simp only [paV, hp, Option.elim]
    try simp (disch := first | omega | (simp only [PL]; omega)) only [PS, P1, P2, P3, P4, P5, P6, P7, P8, PA, PB, PC, Nat.reduceAdd, Nat.reduceSub, Nat.reduceMul, Nat.reduceLeDiff, Nat.reduceEqDiff, Nat.succ_ne_self, reduceCtorEq, Int.reduceToNat, Int.cast_ofNat_Int, Int.reduceEq, Int.reduceNe, Int.reduceLT, Int.reduceLE]
    refine i_le (le_one (Heap.le.refl _)) ?_
    try simp (disch := first | omega | (simp only [PL]; omega)) only [PS, P1, P2, P3, P4, P5, P6, P7, P8, PA, PB, PC, Nat.reduceAdd, Nat.reduceSub, Nat.reduceMul, Nat.reduceLeDiff, Nat.reduceEqDiff, Nat.succ_ne_self, reduceCtorEq, Int.reduceToNat, Int.cast_ofNat_Int, Int.reduceEq, Int.reduceNe, Int.reduceLT, Int.reduceLE]
    refine i_le (le_two (Heap.le.refl _) (Heap.le.refl _)) ?_
    try simp (disch := first | omega | (simp only [PL]; omega)) only [PS, P1, P2, P3, P4, P5, P6, P7, P8, PA, PB, PC, Nat.reduceAdd, Nat.reduceSub, Nat.reduceMul, Nat.reduceLeDiff, Nat.reduceEqDiff, Nat.succ_ne_self, reduceCtorEq, Int.reduceToNat, Int.cast_ofNat_Int, Int.reduceEq, Int.reduceNe, Int.reduceLT, Int.reduceLE]
    exact hK1 (Tg.bad_none hp) h1 hle1
  | some a =>
    have hbad := hsome a hp
    have hpa := partsOf_some hp
    have hp18 : a.cd ≤ 18 ∧ a.rd ≤ 18 := by omega
    simp only [paV, hp, Option.elim, Pa.enc]
    by_cases hc0 : t.company < 0
    · have hc1 : (t.company < 0) = True := by simpa using hc0
      try simp (disch := first | omega | (simp only [PL]; omega)) only [PS, P1, P2, P3, P4, P5, P6, P7, P8, PA, PB, PC, Nat.reduceAdd, Nat.reduceSub, Nat.reduceMul, Nat.reduceLeDiff, Nat.reduceEqDiff, Nat.succ_ne_self, reduceCtorEq, Int.reduceToNat, Int.cast_ofNat_Int, Int.reduceEq, Int.reduceNe, Int.reduceLT, Int.reduceLE, hc1]
      refine i_le (le_one (Heap.le.refl _)) ?_
      try simp (disch := first | omega | (simp only [PL]; omega)) only [PS, P1, P2, P3, P4, P5, P6, P7, P8, PA, PB, PC, Nat.reduceAdd, Nat.reduceSub, Nat.reduceMul, Nat.reduceLeDiff, Nat.reduceEqDiff, Nat.succ_ne_self, reduceCtorEq, Int.reduceToNat, Int.cast_ofNat_Int, Int.reduceEq, Int.reduceNe, Int.reduceLT, Int.reduceLE]
      refine i_le (le_two (Heap.le.refl _) (Heap.le.refl _)) ?_
      try simp (disch := first | omega | (simp only [PL]; omega)) only [PS, P1, P2, P3, P4, P5, P6, P7, P8, PA, PB, PC, Nat.reduceAdd, Nat.reduceSub, Nat.reduceMul, Nat.reduceLeDiff, Nat.reduceEqDiff, Nat.succ_ne_self, reduceCtorEq, Int.reduceToNat, Int.cast_ofNat_Int, Int.reduceEq, Int.reduceNe, Int.reduceLT, Int.reduceLE]
      exact hK1 (hbad.2 (by omega)) h1 hle1
    · have hc1 : (t.company < 0) = False := by simpa using hc0
      try simp (disch := first | omega | (simp only [PL]; omega)) only [PS, P1, P2, P3, P4, P5, P6, P7, P8, PA, PB, PC, Nat.reduceAdd, Nat.reduceSub, Nat.reduceMul, Nat.reduceLeDiff, Nat.reduceEqDiff, Nat.succ_ne_self, reduceCtorEq, Int.reduceToNat, Int.cast_ofNat_Int, Int.reduceEq, Int.reduceNe, Int.reduceLT, Int.reduceLE, hc1]
      refine i_call H117 ⟨a.cd, rfl, hp18.1, ?_⟩
      refine i_le (le_one (Heap.le.refl _)) ?_
      by_cases hb3 : ((10 ^ a.cd : Nat) : Int) ≤ t.company ∨ t.ref < 0
      · have hcond : (((10 ^ a.cd : Nat) : Int) ≤ t.company ∨ t.ref < 0) = True := by simpa using hb3
        try simp (disch := first | omega | (simp only [PL]; omega)) only [PS, P1, P2, P3, P4, P5, P6, P7, P8, PA, PB, PC, Nat.reduceAdd, Nat.reduceSub, Nat.reduceMul, Nat.reduceLeDiff, Nat.reduceEqDiff, Nat.succ_ne_self, reduceCtorEq, Int.reduceToNat, Int.cast_ofNat_Int, Int.reduceEq, Int.reduceNe, Int.reduceLT, Int.reduceLE, hcond]
        refine i_le (le_two (Heap.le.refl _) (Heap.le.refl _)) ?_
        try simp (disch := first | omega | (simp only [PL]; omega)) only [PS, P1, P2, P3, P4, P5, P6, P7, P8, PA, PB, PC, Nat.reduceAdd, Nat.reduceSub, Nat.reduceMul, Nat.reduceLeDiff, Nat.reduceEqDiff, Nat.succ_ne_self, reduceCtorEq, Int.reduceToNat, Int.cast_ofNat_Int, Int.reduceEq, Int.reduceNe, Int.reduceLT, Int.reduceLE]
        exact hK1 (hbad.2 (by omega)) h1 hle1
      · have hcond : (((10 ^ a.cd : Nat) : Int) ≤ t.company ∨ t.ref < 0) = False := by simpa using hb3
        try simp (disch := first | omega | (simp only [PL]; omega)) only [PS, P1, P2, P3, P4, P5, P6, P7, P8, PA, PB, PC, Nat.reduceAdd, Nat.reduceSub, Nat.reduceMul, Nat.reduceLeDiff, Nat.reduceEqDiff, Nat.succ_ne_self, reduceCtorEq, Int.reduceToNat, Int.cast_ofNat_Int, Int.reduceEq, Int.reduceNe, Int.reduceLT, Int.reduceLE, hcond]
        refine i_call H117 ⟨a.rd, rfl, hp18.2, ?_⟩
        refine i_le (le_two (Heap.le.refl _) (Heap.le.refl _)) ?_
        try simp (disch := first | omega | (simp only [PL]; omega)) only [PS, P1, P2, P3, P4, P5, P6, P7, P8, PA, PB, PC, Nat.reduceAdd, Nat.reduceSub, Nat.reduceMul, Nat.reduceLeDiff, Nat.reduceEqDiff, Nat.succ_ne_self, reduceCtorEq, Int.reduceToNat, Int.cast_ofNat_Int, Int.reduceEq, Int.reduceNe, Int.reduceLT, Int.reduceLE]
        refine i_cond (fun c2 => ?_) (fun c2 => ?_)
        · try simp (disch := first | omega | (simp only [PL]; omega)) only [PS, P1, P2, P3, P4, P5, P6, P7, P8, PA, PB, PC, Nat.reduceAdd, Nat.reduceSub, Nat.reduceMul, Nat.reduceLeDiff, Nat.reduceEqDiff, Nat.succ_ne_self, reduceCtorEq, Int.reduceToNat, Int.cast_ofNat_Int, Int.reduceEq, Int.reduceNe, Int.reduceLT, Int.reduceLE]
          exact hK1 (hbad.2 (by omega)) h1 hle1
        · try simp (disch := first | omega | (simp only [PL]; omega)) only [PS, P1, P2, P3, P4, P5, P6, P7, P8, PA, PB, PC, Nat.reduceAdd, Nat.reduceSub, Nat.reduceMul, Nat.reduceLeDiff, Nat.reduceEqDiff, Nat.succ_ne_self, reduceCtorEq, Int.reduceToNat, Int.cast_ofNat_Int, Int.reduceEq, Int.reduceNe, Int.reduceLT, Int.reduceLE]
          exact hK0 (fun h => by have := hbad.1 h; omega) h1 hle1
end Go.Cw
namespace Go.Cw
open Go

theorem shr_nat (k k' : IntKind) (x s : Nat) (hs : s ≤ k.bits) : binV .shr (.int k (x : Int)) (.int k' (s : Int)) = some (.int k ((x / 2 ^ s : Nat) : Int)) := by
  simp only [binV, shiftV]
  rw [if_neg (by omega), Int.toNat_natCast, show Nat.min s k.bits = s from Nat.min_eq_left hs]
  have h1 : (x : Int).fdiv (2 ^ s) = ((x / 2 ^ s : Nat) : Int) := by
    rw [Int.fdiv_eq_ediv_of_nonneg _ (Int.le_of_lt (Int.pow_pos (by omega)))]
    simp
  rw [h1]
theorem wrap_u64 (n : Nat) (h : n < 2 ^ 64) : IntKind.u64.wrap (n : Int) = (n : Int) := by
  simp only [IntKind.wrap, IntKind.bits, IntKind.signed]
  simp; omega
theorem shl_nat (k' : IntKind) (x s : Nat) (hs : s ≤ 64) (hx : x * 2 ^ s < 2 ^ 64) : binV .shl (.int .u64 (x : Int)) (.int k' (s : Int)) = some (.int .u64 ((x * 2 ^ s : Nat) : Int)) := by
  simp only [binV, shiftV]
  rw [if_neg (by omega), Int.toNat_natCast, show Nat.min s IntKind.u64.bits = s from Nat.min_eq_left hs]
  have h1 : (x : Int) * 2 ^ s = ((x * 2 ^ s : Nat) : Int) := by simp
  rw [h1, wrap_u64 _ hx]
theorem bits_nat (n x : Nat) (h : x < 2 ^ n) : (BitVec.ofInt n (x : Int)).toNat = x := by
  simp [Nat.mod_eq_of_lt h]
theorem and_u64 (x y : Nat) (hx : x < 2 ^ 64) (hy : y < 2 ^ 64) : binV .and (.int .u64 (x : Int)) (.int .u64 (y : Int)) = some (.int .u64 ((x &&& y : Nat) : Int)) := by
  have hb : (BitVec.ofInt IntKind.u64.bits (x : Int) &&& BitVec.ofInt IntKind.u64.bits (y : Int)).toNat = x &&& y := by rw [BitVec.toNat_and, bits_nat IntKind.u64.bits x hx, bits_nat IntKind.u64.bits y hy]
  simp only [binV, intV, if_true]
  rw [hb, wrap_u64 _ (Nat.lt_of_le_of_lt Nat.and_le_left hx)]
theorem or_u64 (x y : Nat) (hx : x < 2 ^ 64) (hy : y < 2 ^ 64) : binV .or (.int .u64 (x : Int)) (.int .u64 (y : Int)) = some (.int .u64 ((x ||| y : Nat) : Int)) := by
  have hb : (BitVec.ofInt IntKind.u64.bits (x : Int) ||| BitVec.ofInt IntKind.u64.bits (y : Int)).toNat = x ||| y := by rw [BitVec.toNat_or, bits_nat IntKind.u64.bits x hx, bits_nat IntKind.u64.bits y hy]
  simp only [binV, intV, if_true]
  rw [hb, wrap_u64 _ (Nat.or_lt_two_pow hx hy)]
theorem and_u8 (x y : Nat) (hx : x < 2 ^ 8) (hy : y < 2 ^ 8) : binV .and (.int .u8 (x : Int)) (.int .u8 (y : Int)) = some (.int .u8 ((x &&& y : Nat) : Int)) := by
  have hb : (BitVec.ofInt IntKind.u8.bits (x : Int) &&& BitVec.ofInt IntKind.u8.bits (y : Int)).toNat = x &&& y := by rw [BitVec.toNat_and, bits_nat IntKind.u8.bits x hx, bits_nat IntKind.u8.bits y hy]
  simp only [binV, intV, if_true]
  have : x &&& y < 2 ^ 8 := Nat.lt_of_le_of_lt Nat.and_le_left hx
  rw [hb, w8', show ((x &&& y : Nat) : Int) % 256 = ((x &&& y : Nat) : Int) from by omega]

/-- what else lies in memory stays, but for one block -/
def but (b : Nat) (h h' : Heap) : Prop := ∀ x, x ≠ b → h' x = h x
theorem but.le {b : Nat} {h0 h h' : Heap} (hl : Heap.le h0 h) (hn : h0 b = none) (hb : but b h h') : Heap.le h0 h' := by
  intro x o hx
  have : x ≠ b := by intro e; subst e; rw [hn] at hx; cases hx
  rw [hb x this]; exact hl x o hx
theorem but.cell {b : Nat} {h h' : Heap} (hb : but b h h') {a : Addr} (ha : a.block ≠ b) : h'.cell a = h.cell a := by
  simp only [Heap.cell, Heap.cells, hb _ ha]

def S127 : Spec := fun args h K => ∃ bb ba b, ∃ at_ many : Nat, args = [.int .i64 many, .pointer (some ⟨bb, 0, none⟩), .pointer (some ⟨ba, 0, none⟩)] ∧ h.cell ⟨bb, 0, none⟩ = some (.string (str b)) ∧ objAt h ⟨ba, 0, none⟩ [.int .i64 at_] ∧ bb ≠ ba ∧ b.length = 8 ∧ at_ + many ≤ 64 ∧ many ≤ 30 ∧
  ∀ h', but ba h h' → objAt h' ⟨ba, 0, none⟩ [.int .i64 (at_ + many : Nat)] → K (.int .i64 (rdBits b at_ many : Nat)) h'
theorem rdBits_lt (b : List UInt8) (at_ : Nat) : ∀ k, rdBits b at_ k < 2 ^ k := by
  intro k
  induction k with
  | zero => simp [rdBits]
  | succ k ih => rw [rdBits, Nat.pow_succ]; have : bitAt b (at_ + k) < 2 := Nat.mod_lt _ (by omega); omega
theorem F127_ok {N : Num} {Γ : Ctx} [GoodC Γ] : Sat S127 (SF N Γ F127) := by
  rintro _ h K ⟨bb, ba, b, at_, many, rfl, hb, hat, hne, hlen, hm, hm30, hK⟩
  refine i_fun rfl ?_
  simp only [F127, env0, List.map, List.length, List.replicate, List.cons_append, List.nil_append, Nat.reduceSub, Nat.reduceAdd]
  try simp (disch := first | omega | (simp only [PL]; omega)) only [PS, P1, P2, P3, P4, P5, P6, P7, P8, PA, PB, PC, Nat.reduceAdd, Nat.reduceSub, Nat.reduceMul, Nat.reduceLeDiff, Nat.reduceEqDiff, Nat.succ_ne_self, reduceCtorEq, Int.reduceToNat, Int.cast_ofNat_Int, Int.reduceEq, Int.reduceNe, Int.reduceLT, Int.reduceLE]
  refine i_loop (fun i : Nat => [some (.int .i64 many), some (.pointer (some ⟨bb, 0, none⟩)), some (.pointer (some ⟨ba, 0, none⟩)), some (.int .i64 0), some (.int .i64 (rdBits b at_ i : Nat)), some (.int .i64 i), none])
    (fun i h1 => i ≤ many ∧ but ba h h1 ∧ objAt h1 ⟨ba, 0, none⟩ [.int .i64 (at_ + i : Nat)]) (fun i => many - i) 0 (by try simp only [Pe, and_true, true_and, and_self]; exact ⟨rfl, rfl⟩) ⟨by omega, fun _ _ => rfl, hat⟩ ?_
  rintro i h1 ⟨hi, hbut, ho⟩
  have hb1 : h1.cell ⟨bb, 0, none⟩ = some (.string (str b)) := (hbut.cell hne).trans hb
  have ha1 : h1.cell ⟨ba, 0, none⟩ = some (.int .i64 (at_ + i : Nat)) := ho.rules.2.1 (by simp)
  try simp (disch := first | omega | (simp only [PL]; omega)) only [PS, P1, P2, P3, P4, P5, P6, P7, P8, PA, PB, PC, Nat.reduceAdd, Nat.reduceSub, Nat.reduceMul, Nat.reduceLeDiff, Nat.reduceEqDiff, Nat.succ_ne_self, reduceCtorEq, Int.reduceToNat, Int.cast_ofNat_Int, Int.reduceEq, Int.reduceNe, Int.reduceLT, Int.reduceLE]
  refine i_cond (fun c1 => ?_) (fun c1 => ?_)
  rotate_left
  · have : i = many := by omega
    subst this
    try simp (disch := first | omega | (simp only [PL]; omega)) only [PS, P1, P2, P3, P4, P5, P6, P7, P8, PA, PB, PC, Nat.reduceAdd, Nat.reduceSub, Nat.reduceMul, Nat.reduceLeDiff, Nat.reduceEqDiff, Nat.succ_ne_self, reduceCtorEq, Int.reduceToNat, Int.cast_ofNat_Int, Int.reduceEq, Int.reduceNe, Int.reduceLT, Int.reduceLE]
    exact hK h1 hbut ho
  have hq : IntKind.i64.wrap (((at_ + i : Nat) : Int).tdiv 8) = (((at_ + i) / 8 : Nat) : Int) := by
    rw [show ((at_ + i : Nat) : Int).tdiv 8 = (((at_ + i) / 8 : Nat) : Int) from by rw [Int.tdiv_eq_ediv_of_nonneg (by omega)]; omega, w64 (by omega) (by omega)]
  have hr : IntKind.i64.wrap (((at_ + i : Nat) : Int).tmod 8) = (((at_ + i) % 8 : Nat) : Int) := by
    rw [show ((at_ + i : Nat) : Int).tmod 8 = (((at_ + i) % 8 : Nat) : Int) from by rw [Int.tmod_eq_emod_of_nonneg (by omega)]; omega, w64 (by omega) (by omega)]
  have hr' : ((at_ + i : Nat) : Int).tmod 8 = (((at_ + i) % 8 : Nat) : Int) := by rw [Int.tmod_eq_emod_of_nonneg (by omega)]; omega
  have hw7 : IntKind.i64.wrap (7 - (((at_ + i) % 8 : Nat) : Int)) = ((7 - (at_ + i) % 8 : Nat) : Int) := by rw [w64 (by omega) (by omega)]; omega
  have hbyte := (b.getD ((at_ + i) / 8) 0).toNat_lt
  have hsh := shr_nat .u8 .i64 (b.getD ((at_ + i) / 8) 0).toNat (7 - (at_ + i) % 8) (by simp [IntKind.bits]; omega)
  have hdl : (b.getD ((at_ + i) / 8) 0).toNat / 2 ^ (7 - (at_ + i) % 8) < 256 := Nat.lt_of_le_of_lt (Nat.div_le_self _ _) (by omega)
  have han := and_u8 ((b.getD ((at_ + i) / 8) 0).toNat / 2 ^ (7 - (at_ + i) % 8)) 1 (by omega) (by omega)
  rw [Nat.and_one_is_mod] at han
  have hand : binV .and (.int .u8 (((b.getD ((at_ + i) / 8) 0).toNat / 2 ^ (7 - (at_ + i) % 8) : Nat) : Int)) (.int .u8 1) = some (.int .u8 ((bitAt b (at_ + i) : Nat) : Int)) := han
  have hbl : bitAt b (at_ + i) < 2 := Nat.mod_lt _ (by omega)
  have hrl : rdBits b at_ i < 1073741824 := Nat.lt_of_lt_of_le (rdBits_lt b at_ i) (Nat.pow_le_pow_right (n := 2) (by omega) (show i ≤ 30 by omega))
  try simp (disch := first | omega | (simp only [PL]; omega)) only [PS, P1, P2, P3, P4, P5, P6, P7, P8, PA, PB, PC, Nat.reduceAdd, Nat.reduceSub, Nat.reduceMul, Nat.reduceLeDiff, Nat.reduceEqDiff, Nat.succ_ne_self, reduceCtorEq, Int.reduceToNat, Int.cast_ofNat_Int, Int.reduceEq, Int.reduceNe, Int.reduceLT, Int.reduceLE, hb1, ha1, hq, hr, hr', hw7, hsh, hand]
  refine i_st ho 0 1 rfl rfl (by omega) (by simp) fun o hob _ => ?_
  have hob2 : objAt (h1.set ba o) ⟨ba, 0, none⟩ [.int .i64 (at_ + i + 1 : Nat)] := hob h1 rfl
  try simp (disch := first | omega | (simp only [PL]; omega)) only [PS, P1, P2, P3, P4, P5, P6, P7, P8, PA, PB, PC, Nat.reduceAdd, Nat.reduceSub, Nat.reduceMul, Nat.reduceLeDiff, Nat.reduceEqDiff, Nat.succ_ne_self, reduceCtorEq, Int.reduceToNat, Int.cast_ofNat_Int, Int.reduceEq, Int.reduceNe, Int.reduceLT, Int.reduceLE]
  refine k_loop (i + 1) (by omega) (by try simp only [Pe, and_true, true_and, and_self]; rfl) ⟨by omega, fun x hx => ?_, hob2⟩
  rw [Heap.set_ne hx]; exact hbut x hx
end Go.Cw
namespace Go.Cw
open Go

def tgV (b : List UInt8) : Value := aggT ((tagOf b).getD Tg.zero)
def S110 : Spec := fun args h K => ∃ b, args = [.string (str b)] ∧ ∀ h', Heap.le h h' → K (.tuple #[tgV b, .bool (tagOf b).isSome]) h'
theorem but.obj {b : Nat} {h h' : Heap} (hb : but b h h') {a : Addr} {cs : List Value} (ha : a.block ≠ b) (ho : objAt h a cs) : objAt h' a cs := by
  obtain ⟨h1, c, t, h2, h3⟩ := ho
  exact ⟨h1, c, t, by rw [hb _ ha]; exact h2, h3⟩
theorem objAt.nn {g : Heap} {a : Addr} {cs : List Value} (h : objAt g a cs) : g a.block ≠ none := by
  obtain ⟨_, c, t, h1, _⟩ := h; rw [h1]; simp
theorem F110_ok {N : Num} {Γ : Ctx} [GoodC Γ] (H127 : Sat S127 (Γ 127)) (H79 : Sat S79 (Γ 79)) (H128 : Sat S128 (Γ 128)) : Sat S110 (SF N Γ F110) := by
  rintro _ h K ⟨b, rfl, hK⟩
  refine i_fun rfl ?_
  simp only [F110, env0, List.map, List.length, List.replicate, List.cons_append, List.nil_append, Nat.reduceSub, Nat.reduceAdd]
  try simp (disch := first | omega | (simp only [PL]; omega)) only [PS, P1, P2, P3, P4, P5, P6, P7, P8, PA, PB, PC, Nat.reduceAdd, Nat.reduceSub, Nat.reduceMul, Nat.reduceLeDiff, Nat.reduceEqDiff, Nat.succ_ne_self, reduceCtorEq, Int.reduceToNat, Int.cast_ofNat_Int, Int.reduceEq, Int.reduceNe, Int.reduceLT, Int.reduceLE]
  refine i_newO fun b1 h1 hle1 hb1 ho1' => ?_
  have ho1 : objAt (fr h h1) ⟨b1, 0, none⟩ [.string (str b)] := ho1'
  have B1 : h1.cell ⟨b1, 0, none⟩ = some (.string (str b)) := (ho1.le (fr_le _ _)).rules.2.1 (by simp)
  unfold tgV tagOf at hK
  try simp (disch := first | omega | (simp only [PL]; omega)) only [PS, P1, P2, P3, P4, P5, P6, P7, P8, PA, PB, PC, Nat.reduceAdd, Nat.reduceSub, Nat.reduceMul, Nat.reduceLeDiff, Nat.reduceEqDiff, Nat.succ_ne_self, reduceCtorEq, Int.reduceToNat, Int.cast_ofNat_Int, Int.reduceEq, Int.reduceNe, Int.reduceLT, Int.reduceLE, B1]
  by_cases hlen : b.length = 8
  rotate_left
  · have hl : ((b.length : Int) ≠ 8) = True := by rw [eq_iff_iff]; simp; omega
    rw [if_pos hlen] at hK
    simp only [Option.getD, Option.isSome, Tg.zero, aggT] at hK
    try simp (disch := first | omega | (simp only [PL]; omega)) only [PS, P1, P2, P3, P4, P5, P6, P7, P8, PA, PB, PC, Nat.reduceAdd, Nat.reduceSub, Nat.reduceMul, Nat.reduceLeDiff, Nat.reduceEqDiff, Nat.succ_ne_self, reduceCtorEq, Int.reduceToNat, Int.cast_ofNat_Int, Int.reduceEq, Int.reduceNe, Int.reduceLT, Int.reduceLE, hl]
    exact hK h1 hle1
  have hl : ((b.length : Int) ≠ 8) = False := by rw [eq_iff_iff]; simp; omega
  rw [if_neg (by omega)] at hK
  try simp (disch := first | omega | (simp only [PL]; omega)) only [PS, P1, P2, P3, P4, P5, P6, P7, P8, PA, PB, PC, Nat.reduceAdd, Nat.reduceSub, Nat.reduceMul, Nat.reduceLeDiff, Nat.reduceEqDiff, Nat.succ_ne_self, reduceCtorEq, Int.reduceToNat, Int.cast_ofNat_Int, Int.reduceEq, Int.reduceNe, Int.reduceLT, Int.reduceLE, hl]
  refine i_newO fun b4 h2 hle2 hb4 ho4 => ?_
  try simp (disch := first | omega | (simp only [PL]; omega)) only [PS, P1, P2, P3, P4, P5, P6, P7, P8, PA, PB, PC, Nat.reduceAdd, Nat.reduceSub, Nat.reduceMul, Nat.reduceLeDiff, Nat.reduceEqDiff, Nat.succ_ne_self, reduceCtorEq, Int.reduceToNat, Int.cast_ofNat_Int, Int.reduceEq, Int.reduceNe, Int.reduceLT, Int.reduceLE]
  refine i_st (ho4.le (fr_le _ _)) 0 1 rfl rfl (by omega) (Nat.le_refl 1) fun o hob _ => ?_
  have hob4 : objAt (h2.set b4 o) ⟨b4, 0, none⟩ [.int .i64 (0 : Nat)] := hob h2 rfl
  have hne : b1 ≠ b4 := by
    rintro rfl
    exact objAt.nn ((ho1.le (fr_le h h1)).le (Heap.le.refl h1)) hb4
  have hb4h : h b4 = none := le_none hle1 b4 hb4
  have hle3 : Heap.le h (h2.set b4 o) := but.le (b := b4) (hle1.trans hle2) hb4h fun x hx => Heap.set_ne hx
  have hob1 : objAt (h2.set b4 o) ⟨b1, 0, none⟩ [.string (str b)] := but.obj (b := b4) (fun x hx => Heap.set_ne hx) hne ((ho1.le (fr_le _ _)).le hle2)
  generalize h2.set b4 o = h3 at *
  have hnum : ∀ at_ k, at_ + k ≤ 64 → rdBits b at_ k = num b / 2 ^ (64 - at_ - k) % 2 ^ k := fun at_ k hk => rdBits_num hlen at_ k hk
  have hnlt := num_lt b
  rw [hlen] at hnlt
  try simp (disch := first | omega | (simp only [PL]; omega)) only [PS, P1, P2, P3, P4, P5, P6, P7, P8, PA, PB, PC, Nat.reduceAdd, Nat.reduceSub, Nat.reduceMul, Nat.reduceLeDiff, Nat.reduceEqDiff, Nat.succ_ne_self, reduceCtorEq, Int.reduceToNat, Int.cast_ofNat_Int, Int.reduceEq, Int.reduceNe, Int.reduceLT, Int.reduceLE]
  refine i_cal H127 ⟨b1, b4, b, 0, 8, rfl, hob1.rules.2.1 (by simp), hob4, hne, hlen, by omega, by omega, fun h4 hbut4 hob4' => ?_⟩
  have hle4 := hbut4.le hle3 hb4h
  have hob1' := hbut4.obj hne hob1
  have e1 : rdBits b 0 8 = num b / 2 ^ 56 := by rw [hnum 0 8 (by omega)]; exact Nat.mod_eq_of_lt (by omega)
  have hk47 : IntKind.i64.wrap (((num b / 2 ^ 56 : Nat) : Int) - 47) = ((num b / 2 ^ 56 : Nat) : Int) - 47 := by rw [w64 (by omega) (by omega)]
  rw [e1]
  try simp (disch := first | omega | (simp only [PL]; omega)) only [PS, P1, P2, P3, P4, P5, P6, P7, P8, PA, PB, PC, Nat.reduceAdd, Nat.reduceSub, Nat.reduceMul, Nat.reduceLeDiff, Nat.reduceEqDiff, Nat.succ_ne_self, reduceCtorEq, Int.reduceToNat, Int.cast_ofNat_Int, Int.reduceEq, Int.reduceNe, Int.reduceLT, Int.reduceLE, hk47]
  refine i_cal H127 ⟨b1, b4, b, 8, 3, rfl, hob1'.rules.2.1 (by simp), hob4', hne, hlen, by omega, by omega, fun h5 hbut5 hob5 => ?_⟩
  have hle5 := hbut5.le hle4 hb4h
  have hob15 := hbut5.obj hne hob1'
  have e2 : rdBits b 8 3 = num b / 2 ^ 53 % 8 := hnum 8 3 (by omega)
  rw [e2]
  try simp (disch := first | omega | (simp only [PL]; omega)) only [PS, P1, P2, P3, P4, P5, P6, P7, P8, PA, PB, PC, Nat.reduceAdd, Nat.reduceSub, Nat.reduceMul, Nat.reduceLeDiff, Nat.reduceEqDiff, Nat.succ_ne_self, reduceCtorEq, Int.reduceToNat, Int.cast_ofNat_Int, Int.reduceEq, Int.reduceNe, Int.reduceLT, Int.reduceLE]
  refine i_cal H127 ⟨b1, b4, b, 11, 3, rfl, hob15.rules.2.1 (by simp), hob5, hne, hlen, by omega, by omega, fun h6 hbut6 hob6 => ?_⟩
  have hle6 := hbut6.le hle5 hb4h
  have hob16 := hbut6.obj hne hob15
  have e3 : rdBits b 11 3 = num b / 2 ^ 50 % 8 := hnum 11 3 (by omega)
  rw [e3]
  try simp (disch := first | omega | (simp only [PL]; omega)) only [PS, P1, P2, P3, P4, P5, P6, P7, P8, PA, PB, PC, Nat.reduceAdd, Nat.reduceSub, Nat.reduceMul, Nat.reduceLeDiff, Nat.reduceEqDiff, Nat.succ_ne_self, reduceCtorEq, Int.reduceToNat, Int.cast_ofNat_Int, Int.reduceEq, Int.reduceNe, Int.reduceLT, Int.reduceLE]
  refine i_call H79 ⟨_, rfl, ?_⟩
  cases hp : partsOf ((num b / 2 ^ 50 % 8 : Nat) : Int) with
  | none =>
    rw [hp] at hK
    simp only [Option.getD, Option.isSome, Tg.zero, aggT] at hK
    simp only [paV, hp, Option.elim]
    try simp (disch := first | omega | (simp only [PL]; omega)) only [PS, P1, P2, P3, P4, P5, P6, P7, P8, PA, PB, PC, Nat.reduceAdd, Nat.reduceSub, Nat.reduceMul, Nat.reduceLeDiff, Nat.reduceEqDiff, Nat.succ_ne_self, reduceCtorEq, Int.reduceToNat, Int.cast_ofNat_Int, Int.reduceEq, Int.reduceNe, Int.reduceLT, Int.reduceLE]
    refine i_newO fun b7 h7 hle7 hb7 ho7 => ?_
    try simp (disch := first | omega | (simp only [PL]; omega)) only [PS, P1, P2, P3, P4, P5, P6, P7, P8, PA, PB, PC, Nat.reduceAdd, Nat.reduceSub, Nat.reduceMul, Nat.reduceLeDiff, Nat.reduceEqDiff, Nat.succ_ne_self, reduceCtorEq, Int.reduceToNat, Int.cast_ofNat_Int, Int.reduceEq, Int.reduceNe, Int.reduceLT, Int.reduceLE]
    refine i_st (ho7.le (fr_le _ _)) 0 4 rfl rfl (by omega) (Nat.le_refl 4) fun o7 hob7 _ => ?_
    try simp (disch := first | omega | (simp only [PL]; omega)) only [PS, P1, P2, P3, P4, P5, P6, P7, P8, PA, PB, PC, Nat.reduceAdd, Nat.reduceSub, Nat.reduceMul, Nat.reduceLeDiff, Nat.reduceEqDiff, Nat.succ_ne_self, reduceCtorEq, Int.reduceToNat, Int.cast_ofNat_Int, Int.reduceEq, Int.reduceNe, Int.reduceLT, Int.reduceLE]
    exact hK _ (but.le (b := b7) (hle6.trans hle7) (le_none hle6 b7 hb7) fun x hx => Heap.set_ne hx)
  | some a =>
    rw [hp] at hK
    have hpa := partsOf_some hp
    simp only [paV, hp, Option.elim, Pa.enc]
    try simp (disch := first | omega | (simp only [PL]; omega)) only [PS, P1, P2, P3, P4, P5, P6, P7, P8, PA, PB, PC, Nat.reduceAdd, Nat.reduceSub, Nat.reduceMul, Nat.reduceLeDiff, Nat.reduceEqDiff, Nat.succ_ne_self, reduceCtorEq, Int.reduceToNat, Int.cast_ofNat_Int, Int.reduceEq, Int.reduceNe, Int.reduceLT, Int.reduceLE]
    refine i_newO fun b7 h7 hle7 hb7 ho7 => ?_
    try simp (disch := first | omega | (simp only [PL]; omega)) only [PS, P1, P2, P3, P4, P5, P6, P7, P8, PA, PB, PC, Nat.reduceAdd, Nat.reduceSub, Nat.reduceMul, Nat.reduceLeDiff, Nat.reduceEqDiff, Nat.succ_ne_self, reduceCtorEq, Int.reduceToNat, Int.cast_ofNat_Int, Int.reduceEq, Int.reduceNe, Int.reduceLT, Int.reduceLE]
    refine i_st (ho7.le (fr_le _ _)) 0 4 rfl rfl (by omega) (Nat.le_refl 4) fun o7 hob7 _ => ?_
    have hob72 : objAt (h7.set b7 o7) ⟨b7, 0, none⟩ [.int .i64 a.cb, .int .i64 a.cd, .int .i64 a.rb, .int .i64 a.rd] := hob7 h7 rfl
    have hb7h : h b7 = none := le_none hle6 b7 hb7
    have hne17 : b1 ≠ b7 := by rintro rfl; exact objAt.nn hob16 hb7
    have hne47 : b4 ≠ b7 := by rintro rfl; exact objAt.nn hob6 hb7
    have hle8 : Heap.le h (h7.set b7 o7) := but.le (b := b7) (hle6.trans hle7) hb7h fun x hx => Heap.set_ne hx
    have hob18 : objAt (h7.set b7 o7) ⟨b1, 0, none⟩ [.string (str b)] := but.obj (b := b7) (fun x hx => Heap.set_ne hx) hne17 (hob16.le hle7)
    have hob48 : objAt (h7.set b7 o7) ⟨b4, 0, none⟩ [.int .i64 (11 + 3 : Nat)] := but.obj (b := b7) (fun x hx => Heap.set_ne hx) hne47 (hob6.le hle7)
    generalize h7.set b7 o7 = h8 at *
    have haa0 : ∀ h (k : IntKind), o2V h (.aadr 4 1) (.v (.pointer (some ⟨b7, 0, none⟩))) (.v (.int k 0)) = some (.v (.pointer (some ⟨b7, 0, none⟩))) := fun h k => rfl
    have haa2 : ∀ h (k : IntKind), o2V h (.aadr 4 1) (.v (.pointer (some ⟨b7, 0, none⟩))) (.v (.int k 2)) = some (.v (.pointer (some ((⟨b7, 0, none⟩ : Addr).add 2)))) := fun h k => rfl
    have C0 : h8.cell ⟨b7, 0, none⟩ = some (.int .i64 a.cb) := hob72.rules.2.1 (by simp)
    try simp (disch := first | omega | (simp only [PL]; omega)) only [PS, P1, P2, P3, P4, P5, P6, P7, P8, PA, PB, PC, Nat.reduceAdd, Nat.reduceSub, Nat.reduceMul, Nat.reduceLeDiff, Nat.reduceEqDiff, Nat.succ_ne_self, reduceCtorEq, Int.reduceToNat, Int.cast_ofNat_Int, Int.reduceEq, Int.reduceNe, Int.reduceLT, Int.reduceLE, haa0, C0]
    refine i_cal H127 ⟨b1, b4, b, 14, a.cb, rfl, hob18.rules.2.1 (by simp), hob48, hne, hlen, by omega, by omega, fun h9 hbut9 hob9 => ?_⟩
    have hle9 := hbut9.le hle8 hb4h
    have hob19 := hbut9.obj hne hob18
    have hob79 := hbut9.obj (a := ⟨b7, 0, none⟩) (Ne.symm hne47) hob72
    have C2 : h9.cell ((⟨b7, 0, none⟩ : Addr).add 2) = some (.int .i64 a.rb) := hob79.rules.1 2 (by simp)
    have e4 : rdBits b 14 a.cb = num b / 2 ^ (24 + a.rb) % 2 ^ a.cb := by rw [hnum 14 a.cb (by omega)]; congr 3; omega
    rw [e4]
    try simp (disch := first | omega | (simp only [PL]; omega)) only [PS, P1, P2, P3, P4, P5, P6, P7, P8, PA, PB, PC, Nat.reduceAdd, Nat.reduceSub, Nat.reduceMul, Nat.reduceLeDiff, Nat.reduceEqDiff, Nat.succ_ne_self, reduceCtorEq, Int.reduceToNat, Int.cast_ofNat_Int, Int.reduceEq, Int.reduceNe, Int.reduceLT, Int.reduceLE, haa2, C2]
    refine i_cal H127 ⟨b1, b4, b, 14 + a.cb, a.rb, rfl, hob19.rules.2.1 (by simp), hob9, hne, hlen, by omega, by omega, fun h10 hbut10 hob10 => ?_⟩
    have hle10 := hbut10.le hle9 hb4h
    have hob110 := hbut10.obj hne hob19
    have e5 : rdBits b (14 + a.cb) a.rb = num b / 2 ^ 24 % 2 ^ a.rb := by rw [hnum _ _ (by omega)]; congr 3; omega
    rw [e5]
    try simp (disch := first | omega | (simp only [PL]; omega)) only [PS, P1, P2, P3, P4, P5, P6, P7, P8, PA, PB, PC, Nat.reduceAdd, Nat.reduceSub, Nat.reduceMul, Nat.reduceLeDiff, Nat.reduceEqDiff, Nat.succ_ne_self, reduceCtorEq, Int.reduceToNat, Int.cast_ofNat_Int, Int.reduceEq, Int.reduceNe, Int.reduceLT, Int.reduceLE]
    refine i_cal H127 ⟨b1, b4, b, 14 + a.cb + a.rb, 24, rfl, hob110.rules.2.1 (by simp), hob10, hne, hlen, by omega, by omega, fun h11 hbut11 hob11 => ?_⟩
    have hle11 := hbut11.le hle10 hb4h
    have e6 : rdBits b (14 + a.cb + a.rb) 24 = num b % 2 ^ 24 := by rw [hnum _ _ (by omega)]; congr 1; rw [show 64 - (14 + a.cb + a.rb) - 24 = 0 by omega]; simp
    rw [e6]
    try simp (disch := first | omega | (simp only [PL]; omega)) only [PS, P1, P2, P3, P4, P5, P6, P7, P8, PA, PB, PC, Nat.reduceAdd, Nat.reduceSub, Nat.reduceMul, Nat.reduceLeDiff, Nat.reduceEqDiff, Nat.succ_ne_self, reduceCtorEq, Int.reduceToNat, Int.cast_ofNat_Int, Int.reduceEq, Int.reduceNe, Int.reduceLT, Int.reduceLE]
    have hcl : num b / 2 ^ (24 + a.rb) % 2 ^ a.cb < 2 ^ 30 := Nat.lt_of_lt_of_le (Nat.mod_lt _ (Nat.pow_pos (by omega))) (Nat.pow_le_pow_right (by omega) (by omega))
    have hrl : num b / 2 ^ 24 % 2 ^ a.rb < 2 ^ 30 := Nat.lt_of_lt_of_le (Nat.mod_lt _ (Nat.pow_pos (by omega))) (Nat.pow_le_pow_right (by omega) (by omega))
    refine i_call H128 ⟨tagAt (num b) a, rfl, by simp only [tagAt]; omega, by simp only [tagAt]; omega, fun h12 hle12 => ?_⟩
    dsimp only at hK
    by_cases hbad : (tagAt (num b) a).bad
    · rw [if_pos hbad] at hK
      rw [fault_bad hbad]
      simp only [Option.getD, Option.isSome, Tg.zero, aggT] at hK
      try simp (disch := first | omega | (simp only [PL]; omega)) only [PS, P1, P2, P3, P4, P5, P6, P7, P8, PA, PB, PC, Nat.reduceAdd, Nat.reduceSub, Nat.reduceMul, Nat.reduceLeDiff, Nat.reduceEqDiff, Nat.succ_ne_self, reduceCtorEq, Int.reduceToNat, Int.cast_ofNat_Int, Int.reduceEq, Int.reduceNe, Int.reduceLT, Int.reduceLE]
      exact hK h12 (hle11.trans hle12)
    · rw [if_neg hbad] at hK
      rw [fault_ok hbad]
      simp only [Option.getD, Option.isSome, aggT, tagAt] at hK
      try simp (disch := first | omega | (simp only [PL]; omega)) only [PS, P1, P2, P3, P4, P5, P6, P7, P8, PA, PB, PC, Nat.reduceAdd, Nat.reduceSub, Nat.reduceMul, Nat.reduceLeDiff, Nat.reduceEqDiff, Nat.succ_ne_self, reduceCtorEq, Int.reduceToNat, Int.cast_ofNat_Int, Int.reduceEq, Int.reduceNe, Int.reduceLT, Int.reduceLE]
      exact hK h12 (hle11.trans hle12)
end Go.Cw
namespace Go.Cw
open Go

def S106 : Spec := fun args h K => ∃ bn, ∃ n k : Nat, args = [.int .i64 k, .pointer (some ⟨bn, 0, none⟩)] ∧ objAt h ⟨bn, 0, none⟩ [.int .u64 n] ∧ n < 2 ^ 64 ∧ k ≤ 30 ∧ ∀ h', but bn h h' → objAt h' ⟨bn, 0, none⟩ [.int .u64 (n / 2 ^ k : Nat)] → K (.int .i64 (n % 2 ^ k : Nat)) h'
theorem F106_ok {N : Num} {Γ : Ctx} [GoodC Γ] : Sat S106 (SF N Γ F106) := by
  rintro _ h K ⟨bn, n, k, rfl, ho, hn, hk, hK⟩
  refine i_fun rfl ?_
  simp only [F106, env0, List.map, List.length, List.replicate, List.cons_append, List.nil_append, Nat.reduceSub, Nat.reduceAdd]
  have hc : h.cell ⟨bn, 0, none⟩ = some (.int .u64 n) := ho.rules.2.1 (by simp)
  have h2k : 2 ^ k ≤ 2 ^ 30 := Nat.pow_le_pow_right (by omega) hk
  have h2p : 0 < 2 ^ k := Nat.pow_pos (by omega)
  have hsl : binV .shl (.int .u64 1) (.int .i64 (k : Int)) = some (.int .u64 ((2 ^ k : Nat) : Int)) := by
    have := shl_nat .i64 1 k (by omega) (by omega)
    rw [Nat.one_mul] at this; exact this
  have hsub : IntKind.u64.wrap (((2 ^ k : Nat) : Int) - 1) = ((2 ^ k - 1 : Nat) : Int) := by
    rw [show ((2 ^ k : Nat) : Int) - 1 = ((2 ^ k - 1 : Nat) : Int) by omega, wrap_u64 _ (by omega)]
  have han := and_u64 n (2 ^ k - 1) hn (by omega)
  rw [Nat.and_two_pow_sub_one_eq_mod] at han
  have hml : n % 2 ^ k < 2 ^ 30 := Nat.lt_of_lt_of_le (Nat.mod_lt _ h2p) h2k
  have hsr := shr_nat .u64 .i64 n k (by simp [IntKind.bits]; omega)
  try simp (disch := first | omega | (simp only [PL]; omega)) only [PS, P1, P2, P3, P4, P5, P6, P7, P8, PA, PB, PC, Nat.reduceAdd, Nat.reduceSub, Nat.reduceMul, Nat.reduceLeDiff, Nat.reduceEqDiff, Nat.succ_ne_self, reduceCtorEq, Int.reduceToNat, Int.cast_ofNat_Int, Int.reduceEq, Int.reduceNe, Int.reduceLT, Int.reduceLE, hc, hsl, hsub, han, hsr]
  refine i_st ho 0 1 rfl rfl (by omega) (Nat.le_refl 1) fun o hob _ => ?_
  have hob2 : objAt (h.set bn o) ⟨bn, 0, none⟩ [.int .u64 (n / 2 ^ k : Nat)] := hob h rfl
  try simp (disch := first | omega | (simp only [PL]; omega)) only [PS, P1, P2, P3, P4, P5, P6, P7, P8, PA, PB, PC, Nat.reduceAdd, Nat.reduceSub, Nat.reduceMul, Nat.reduceLeDiff, Nat.reduceEqDiff, Nat.succ_ne_self, reduceCtorEq, Int.reduceToNat, Int.cast_ofNat_Int, Int.reduceEq, Int.reduceNe, Int.reduceLT, Int.reduceLE]
  exact hK _ (fun x hx => Heap.set_ne hx) hob2

def S81 (N : Num) : Spec := fun args h K => ∃ b, args = [.string (str b)] ∧ ∀ h', Heap.le h h' → K (.tuple #[tgV b, errV N (if (tagOf b).isSome then 0 else 3)]) h'
theorem num_take {b : List UInt8} {i : Nat} (hi : i < b.length) : num (b.take (i + 1)) = num (b.take i) * 256 + (b.getD i 0).toNat := by rw [take_succ_d 0 hi, num_snoc]
theorem F81_ok {N : Num} {Γ : Ctx} [GoodC Γ] (H106 : Sat S106 (Γ 106)) (H107 : Sat S107 (Γ 107)) (H108 : Sat (S108 N) (Γ 108)) : Sat (S81 N) (SF N Γ F81) := by
  rintro _ h K ⟨b, rfl, hK⟩
  refine i_fun rfl ?_
  simp only [F81, env0, List.map, List.length, List.replicate, List.cons_append, List.nil_append, Nat.reduceSub, Nat.reduceAdd]
  unfold tgV tagOf at hK
  by_cases hlen : b.length = 8
  rotate_left
  · have hl : ((b.length : Int) ≠ 8) = True := by rw [eq_iff_iff]; simp; omega
    rw [if_pos hlen] at hK
    simp only [Option.getD, Option.isSome, Tg.zero, aggT, Bool.false_eq_true, if_false, errV_succ] at hK
    try simp (disch := first | omega | (simp only [PL]; omega)) only [PS, P1, P2, P3, P4, P5, P6, P7, P8, PA, PB, PC, Nat.reduceAdd, Nat.reduceSub, Nat.reduceMul, Nat.reduceLeDiff, Nat.reduceEqDiff, Nat.succ_ne_self, reduceCtorEq, Int.reduceToNat, Int.cast_ofNat_Int, Int.reduceEq, Int.reduceNe, Int.reduceLT, Int.reduceLE, hl]
    exact hK h (Heap.le.refl h)
  have hl : ((b.length : Int) ≠ 8) = False := by rw [eq_iff_iff]; simp; omega
  rw [if_neg (by omega)] at hK
  try simp (disch := first | omega | (simp only [PL]; omega)) only [PS, P1, P2, P3, P4, P5, P6, P7, P8, PA, PB, PC, Nat.reduceAdd, Nat.reduceSub, Nat.reduceMul, Nat.reduceLeDiff, Nat.reduceEqDiff, Nat.succ_ne_self, reduceCtorEq, Int.reduceToNat, Int.cast_ofNat_Int, Int.reduceEq, Int.reduceNe, Int.reduceLT, Int.reduceLE, hl]
  refine i_newO fun b3 h1 hle1 hb3 ho3 => ?_
  try simp (disch := first | omega | (simp only [PL]; omega)) only [PS, P1, P2, P3, P4, P5, P6, P7, P8, PA, PB, PC, Nat.reduceAdd, Nat.reduceSub, Nat.reduceMul, Nat.reduceLeDiff, Nat.reduceEqDiff, Nat.succ_ne_self, reduceCtorEq, Int.reduceToNat, Int.cast_ofNat_Int, Int.reduceEq, Int.reduceNe, Int.reduceLT, Int.reduceLE]
  refine i_st (ho3.le (fr_le _ _)) 0 1 rfl rfl (by omega) (Nat.le_refl 1) fun o hob _ => ?_
  have hob3 : objAt (h1.set b3 o) ⟨b3, 0, none⟩ [.int .u64 (num (b.take 0) : Nat)] := hob h1 rfl
  have hle2 : Heap.le h (h1.set b3 o) := but.le (b := b3) hle1 hb3 fun x hx => Heap.set_ne hx
  generalize h1.set b3 o = h2 at *
  try simp (disch := first | omega | (simp only [PL]; omega)) only [PS, P1, P2, P3, P4, P5, P6, P7, P8, PA, PB, PC, Nat.reduceAdd, Nat.reduceSub, Nat.reduceMul, Nat.reduceLeDiff, Nat.reduceEqDiff, Nat.succ_ne_self, reduceCtorEq, Int.reduceToNat, Int.cast_ofNat_Int, Int.reduceEq, Int.reduceNe, Int.reduceLT, Int.reduceLE]
  refine i_meet_blk (fun env H => Heap.le h H ∧ objAt H ⟨b3, 0, none⟩ [.int .u64 (num b : Nat)] ∧ env = [some (.string (str b)), some (.agg #[.int .i64 0, .int .i64 0, .int .i64 0, .int .i64 0, .int .i64 0, .int .i64 0]), some .nilIface, some (.pointer (some ⟨b3, 0, none⟩)), none, none, none, none, none, none, none, none, none, none, none, none, none, none, none, none, none, none, none, none, none, none, none, none, none, none, none, none, none, none, none]) ?_ ?_
  rotate_left
  · refine i_loop (fun i : Nat => [some (.string (str b)), some (.agg #[.int .i64 0, .int .i64 0, .int .i64 0, .int .i64 0, .int .i64 0, .int .i64 0]), some .nilIface, some (.pointer (some ⟨b3, 0, none⟩)), none, none, none, none, none, none, none, some (.int .i64 b.length), some (.int .i64 i), none, none, none, none, none, none, none, none, none, none, none, none, none, none, none, none, none, none, none, none, none, none])
      (fun i H => i ≤ 8 ∧ Heap.le h H ∧ objAt H ⟨b3, 0, none⟩ [.int .u64 (num (b.take i) : Nat)]) (fun i => 8 - i) 0 (by try simp only [Pe, and_true, true_and, and_self]; rfl) ⟨by omega, hle2, hob3⟩ ?_
    rintro i H ⟨hi, hle, ho⟩
    have hc : H.cell ⟨b3, 0, none⟩ = some (.int .u64 (num (b.take i) : Nat)) := ho.rules.2.1 (by simp)
    try simp (disch := first | omega | (simp only [PL]; omega)) only [PS, P1, P2, P3, P4, P5, P6, P7, P8, PA, PB, PC, Nat.reduceAdd, Nat.reduceSub, Nat.reduceMul, Nat.reduceLeDiff, Nat.reduceEqDiff, Nat.succ_ne_self, reduceCtorEq, Int.reduceToNat, Int.cast_ofNat_Int, Int.reduceEq, Int.reduceNe, Int.reduceLT, Int.reduceLE]
    refine i_cond (fun c1 => ?_) (fun c1 => ?_)
    rotate_left
    · have : i = b.length := by omega
      subst this
      rw [List.take_length] at ho
      try simp (disch := first | omega | (simp only [PL]; omega)) only [PS, P1, P2, P3, P4, P5, P6, P7, P8, PA, PB, PC, Nat.reduceAdd, Nat.reduceSub, Nat.reduceMul, Nat.reduceLeDiff, Nat.reduceEqDiff, Nat.succ_ne_self, reduceCtorEq, Int.reduceToNat, Int.cast_ofNat_Int, Int.reduceEq, Int.reduceNe, Int.reduceLT, Int.reduceLE]
      exact k_meet _ (by try simp only [Pe, and_true, true_and, and_self]) ⟨hle, ho, rfl⟩
    have hi2 : i < b.length := by omega
    have hnl := num_lt (b.take i)
    have hnl2 : num (b.take i) < 256 ^ 7 := Nat.lt_of_lt_of_le hnl (Nat.pow_le_pow_right (by omega) (by rw [List.length_take]; omega))
    have hbyte := (b.getD i 0).toNat_lt
    have hsl := shl_nat .u64 (num (b.take i)) 8 (by omega) (by omega)
    have hcv : IntKind.u64.wrap (((b.getD i 0).toNat : Nat) : Int) = (((b.getD i 0).toNat : Nat) : Int) := wrap_u64 _ (by omega)
    have hor := or_u64 (num (b.take i) * 2 ^ 8) (b.getD i 0).toNat (by omega) (by omega)
    have hor2 : num (b.take i) * 2 ^ 8 ||| (b.getD i 0).toNat = num (b.take (i + 1)) := by
      rw [num_take hi2, Nat.mul_comm _ (2 ^ 8), ← Nat.two_pow_add_eq_or_of_lt (by omega)]
    rw [hor2] at hor
    have hsl' : binV .shl (.int .u64 (num (b.take i) : Nat)) (.int .u64 8) = some (.int .u64 ((num (b.take i) * 2 ^ 8 : Nat) : Int)) := hsl
    try simp (disch := first | omega | (simp only [PL]; omega)) only [PS, P1, P2, P3, P4, P5, P6, P7, P8, PA, PB, PC, Nat.reduceAdd, Nat.reduceSub, Nat.reduceMul, Nat.reduceLeDiff, Nat.reduceEqDiff, Nat.succ_ne_self, reduceCtorEq, Int.reduceToNat, Int.cast_ofNat_Int, Int.reduceEq, Int.reduceNe, Int.reduceLT, Int.reduceLE, hc, hsl', hcv, hor]
    refine i_st ho 0 1 rfl rfl (by omega) (Nat.le_refl 1) fun o2 hob' _ => ?_
    have hob4 : objAt (H.set b3 o2) ⟨b3, 0, none⟩ [.int .u64 (num (b.take (i + 1)) : Nat)] := hob' H rfl
    try simp (disch := first | omega | (simp only [PL]; omega)) only [PS, P1, P2, P3, P4, P5, P6, P7, P8, PA, PB, PC, Nat.reduceAdd, Nat.reduceSub, Nat.reduceMul, Nat.reduceLeDiff, Nat.reduceEqDiff, Nat.succ_ne_self, reduceCtorEq, Int.reduceToNat, Int.cast_ofNat_Int, Int.reduceEq, Int.reduceNe, Int.reduceLT, Int.reduceLE]
    exact k_loop (i + 1) (by omega) (by try simp only [Pe, and_true, true_and, and_self]) ⟨by omega, but.le (b := b3) hle hb3 fun x hx => Heap.set_ne hx, hob4⟩
  rintro env H ⟨hle, ho, rfl⟩
  have hnlt := num_lt b
  rw [hlen] at hnlt
  generalize num b = n at *
  try simp (disch := first | omega | (simp only [PL]; omega)) only [PS, P1, P2, P3, P4, P5, P6, P7, P8, PA, PB, PC, Nat.reduceAdd, Nat.reduceSub, Nat.reduceMul, Nat.reduceLeDiff, Nat.reduceEqDiff, Nat.succ_ne_self, reduceCtorEq, Int.reduceToNat, Int.cast_ofNat_Int, Int.reduceEq, Int.reduceNe, Int.reduceLT, Int.reduceLE]
  refine i_newO fun b6 h3 hle3 hb6 ho6 => ?_
  have hne : b3 ≠ b6 := by rintro rfl; exact objAt.nn ho hb6
  have ho6' : objAt h3 ⟨b6, 0, none⟩ [.int .i64 0, .int .i64 0, .int .i64 0, .int .i64 0, .int .i64 0, .int .i64 0] := ho6.le (fr_le _ _)
  have hb6h : h b6 = none := le_none hle b6 hb6
  try simp (disch := first | omega | (simp only [PL]; omega)) only [PS, P1, P2, P3, P4, P5, P6, P7, P8, PA, PB, PC, Nat.reduceAdd, Nat.reduceSub, Nat.reduceMul, Nat.reduceLeDiff, Nat.reduceEqDiff, Nat.succ_ne_self, reduceCtorEq, Int.reduceToNat, Int.cast_ofNat_Int, Int.reduceEq, Int.reduceNe, Int.reduceLT, Int.reduceLE]
  refine i_cal H106 ⟨b3, n, 24, rfl, ho.le hle3, by omega, by omega, fun h4 hbut4 hob4 => ?_⟩
  have hle4 := hbut4.le (hle.trans hle3) hb3
  have ho64 := hbut4.obj (a := ⟨b6, 0, none⟩) (Ne.symm hne) ho6'
  try simp (disch := first | omega | (simp only [PL]; omega)) only [PS, P1, P2, P3, P4, P5, P6, P7, P8, PA, PB, PC, Nat.reduceAdd, Nat.reduceSub, Nat.reduceMul, Nat.reduceLeDiff, Nat.reduceEqDiff, Nat.succ_ne_self, reduceCtorEq, Int.reduceToNat, Int.cast_ofNat_Int, Int.reduceEq, Int.reduceNe, Int.reduceLT, Int.reduceLE]
  refine i_st ho64 5 1 rfl rfl (by omega) (by simp) fun o5 hob5 _ => ?_
  have ho65 : objAt (h4.set b6 o5) ⟨b6, 0, none⟩ [.int .i64 0, .int .i64 0, .int .i64 0, .int .i64 0, .int .i64 0, .int .i64 (n % 2 ^ 24 : Nat)] := hob5 h4 rfl
  have ho35 : objAt (h4.set b6 o5) ⟨b3, 0, none⟩ [.int .u64 (n / 2 ^ 24 : Nat)] := but.obj (b := b6) (fun x hx => Heap.set_ne hx) hne hob4
  have hle5 : Heap.le h (h4.set b6 o5) := but.le (b := b6) hle4 hb6h fun x hx => Heap.set_ne hx
  generalize h4.set b6 o5 = h5 at *
  have hc3 : h5.cell ⟨b3, 0, none⟩ = some (.int .u64 (n / 2 ^ 24 : Nat)) := ho35.rules.2.1 (by simp)
  have hsr := shr_nat .u64 .u64 (n / 2 ^ 24) 26 (by simp [IntKind.bits])
  have e50 : n / 2 ^ 24 / 2 ^ 26 = n / 2 ^ 50 := by rw [Nat.div_div_eq_div_mul, ← Nat.pow_add]
  rw [e50] at hsr
  have hsr' : binV .shr (.int .u64 ((n / 2 ^ 24 : Nat) : Int)) (.int .u64 26) = some (.int .u64 ((n / 2 ^ 50 : Nat) : Int)) := hsr
  have han := and_u64 (n / 2 ^ 50) 7 (by omega) (by omega)
  rw [show (7 : Nat) = 2 ^ 3 - 1 from rfl, Nat.and_two_pow_sub_one_eq_mod] at han
  have han' : binV .and (.int .u64 ((n / 2 ^ 50 : Nat) : Int)) (.int .u64 7) = some (.int .u64 ((n / 2 ^ 50 % 8 : Nat) : Int)) := han
  have hw : IntKind.i64.wrap ((n / 2 ^ 50 % 8 : Nat) : Int) = ((n / 2 ^ 50 % 8 : Nat) : Int) := w64 (by omega) (by omega)
  try simp (disch := first | omega | (simp only [PL]; omega)) only [PS, P1, P2, P3, P4, P5, P6, P7, P8, PA, PB, PC, Nat.reduceAdd, Nat.reduceSub, Nat.reduceMul, Nat.reduceLeDiff, Nat.reduceEqDiff, Nat.succ_ne_self, reduceCtorEq, Int.reduceToNat, Int.cast_ofNat_Int, Int.reduceEq, Int.reduceNe, Int.reduceLT, Int.reduceLE, hc3, hsr', han', hw]
  refine i_call H107 ⟨_, rfl, fun h6 hle6 => ?_⟩
  cases hp : partsOf ((n / 2 ^ 50 % 8 : Nat) : Int) with
  | none =>
    rw [hp] at hK
    simp only [Option.getD, Option.isSome, Tg.zero, aggT, Bool.false_eq_true, if_false, errV_succ] at hK
    simp only [paV, hp, Option.elim]
    try simp (disch := first | omega | (simp only [PL]; omega)) only [PS, P1, P2, P3, P4, P5, P6, P7, P8, PA, PB, PC, Nat.reduceAdd, Nat.reduceSub, Nat.reduceMul, Nat.reduceLeDiff, Nat.reduceEqDiff, Nat.succ_ne_self, reduceCtorEq, Int.reduceToNat, Int.cast_ofNat_Int, Int.reduceEq, Int.reduceNe, Int.reduceLT, Int.reduceLE]
    exact hK h6 (hle5.trans hle6)
  | some a =>
    rw [hp] at hK
    have hpa := partsOf_some hp
    simp only [paV, hp, Option.elim, Pa.enc]
    try simp (disch := first | omega | (simp only [PL]; omega)) only [PS, P1, P2, P3, P4, P5, P6, P7, P8, PA, PB, PC, Nat.reduceAdd, Nat.reduceSub, Nat.reduceMul, Nat.reduceLeDiff, Nat.reduceEqDiff, Nat.succ_ne_self, reduceCtorEq, Int.reduceToNat, Int.cast_ofNat_Int, Int.reduceEq, Int.reduceNe, Int.reduceLT, Int.reduceLE]
    have ho36 := ho35.le hle6
    have ho66 := ho65.le hle6
    have hle6' := hle5.trans hle6
    have hemp : ∀ H, Heap.le (fun _ => none) H := fun H x o hx => by cases hx
    refine i_cal H106 ⟨b3, n / 2 ^ 24, a.rb, rfl, ho36, by omega, by omega, fun h7 hbut7 hob7 => ?_⟩
    have hle7 := hbut7.le hle6' hb3
    have ho67 := hbut7.obj (a := ⟨b6, 0, none⟩) (Ne.symm hne) ho66
    refine i_lex (fun _ => none) (hemp _) ?_ (le_one (hemp _)) ?_
    · intro l' hl'
      simp only [List.mem_singleton] at hl'
      subst hl'
      exact ⟨true, rfl, fun _ => ⟨.v (.int .i64 a.cb), by try simp (disch := first | omega | (simp only [PL]; omega)) only [PS, P1, P2, P3, P4, P5, P6, P7, P8, PA, PB, PC, Nat.reduceAdd, Nat.reduceSub, Nat.reduceMul, Nat.reduceLeDiff, Nat.reduceEqDiff, Nat.succ_ne_self, reduceCtorEq, Int.reduceToNat, Int.cast_ofNat_Int, Int.reduceEq, Int.reduceNe, Int.reduceLT, Int.reduceLE]⟩⟩
    have en : n / 2 ^ 24 / 2 ^ a.rb = n / 2 ^ (24 + a.rb) := by rw [Nat.div_div_eq_div_mul, ← Nat.pow_add]
    rw [en] at hob7
    have hnl2 : n / 2 ^ (24 + a.rb) < 2 ^ 64 := Nat.lt_of_le_of_lt (Nat.div_le_self _ _) (by omega)
    try simp (disch := first | omega | (simp only [PL]; omega)) only [PS, P1, P2, P3, P4, P5, P6, P7, P8, PA, PB, PC, Nat.reduceAdd, Nat.reduceSub, Nat.reduceMul, Nat.reduceLeDiff, Nat.reduceEqDiff, Nat.succ_ne_self, reduceCtorEq, Int.reduceToNat, Int.cast_ofNat_Int, Int.reduceEq, Int.reduceNe, Int.reduceLT, Int.reduceLE]
    refine i_cal H106 ⟨b3, n / 2 ^ (24 + a.rb), a.cb, rfl, hob7, hnl2, by omega, fun h8 hbut8 hob8 => ?_⟩
    have hle8 := hbut8.le hle7 hb3
    have ho68 := hbut8.obj (a := ⟨b6, 0, none⟩) (Ne.symm hne) ho67
    have en2 : n / 2 ^ (24 + a.rb) / 2 ^ a.cb = n / 2 ^ 50 := by
      rw [Nat.div_div_eq_div_mul, ← Nat.pow_add]
      congr 2; omega
    rw [en2] at hob8
    try simp (disch := first | omega | (simp only [PL]; omega)) only [PS, P1, P2, P3, P4, P5, P6, P7, P8, PA, PB, PC, Nat.reduceAdd, Nat.reduceSub, Nat.reduceMul, Nat.reduceLeDiff, Nat.reduceEqDiff, Nat.succ_ne_self, reduceCtorEq, Int.reduceToNat, Int.cast_ofNat_Int, Int.reduceEq, Int.reduceNe, Int.reduceLT, Int.reduceLE]
    have hcl := Nat.mod_lt (n / 2 ^ (24 + a.rb)) (Nat.pow_pos (n := a.cb) (show 0 < 2 by omega))
    have hcl2 : 2 ^ a.cb ≤ 2 ^ 30 := Nat.pow_le_pow_right (by omega) (by omega)
    have hrl := Nat.mod_lt (n / 2 ^ 24) (Nat.pow_pos (n := a.rb) (show 0 < 2 by omega))
    have hrl2 : 2 ^ a.rb ≤ 2 ^ 30 := Nat.pow_le_pow_right (by omega) (by omega)
    refine i_cal H106 ⟨b3, n / 2 ^ 50, 3, rfl, hob8, by omega, by omega, fun h9 hbut9 hob9 => ?_⟩
    have hle9 := hbut9.le hle8 hb3
    have ho69 := hbut9.obj (a := ⟨b6, 0, none⟩) (Ne.symm hne) ho68
    have en3 : n / 2 ^ 50 / 2 ^ 3 = n / 2 ^ 53 := by rw [Nat.div_div_eq_div_mul, ← Nat.pow_add]
    rw [en3] at hob9
    try simp (disch := first | omega | (simp only [PL]; omega)) only [PS, P1, P2, P3, P4, P5, P6, P7, P8, PA, PB, PC, Nat.reduceAdd, Nat.reduceSub, Nat.reduceMul, Nat.reduceLeDiff, Nat.reduceEqDiff, Nat.succ_ne_self, reduceCtorEq, Int.reduceToNat, Int.cast_ofNat_Int, Int.reduceEq, Int.reduceNe, Int.reduceLT, Int.reduceLE]
    refine i_cal H106 ⟨b3, n / 2 ^ 53, 3, rfl, hob9, by omega, by omega, fun h10 hbut10 hob10 => ?_⟩
    have hle10 := hbut10.le hle9 hb3
    have ho610 := hbut10.obj (a := ⟨b6, 0, none⟩) (Ne.symm hne) ho69
    have en4 : n / 2 ^ 53 / 2 ^ 3 = n / 2 ^ 56 := by rw [Nat.div_div_eq_div_mul, ← Nat.pow_add]
    rw [en4] at hob10
    try simp (disch := first | omega | (simp only [PL]; omega)) only [PS, P1, P2, P3, P4, P5, P6, P7, P8, PA, PB, PC, Nat.reduceAdd, Nat.reduceSub, Nat.reduceMul, Nat.reduceLeDiff, Nat.reduceEqDiff, Nat.succ_ne_self, reduceCtorEq, Int.reduceToNat, Int.cast_ofNat_Int, Int.reduceEq, Int.reduceNe, Int.reduceLT, Int.reduceLE]
    refine i_cal H106 ⟨b3, n / 2 ^ 56, 8, rfl, hob10, by omega, by omega, fun h11 hbut11 hob11 => ?_⟩
    have hle11 := hbut11.le hle10 hb3
    have ho611 := hbut11.obj (a := ⟨b6, 0, none⟩) (Ne.symm hne) ho610
    have en5 : n / 2 ^ 56 % 2 ^ 8 = n / 2 ^ 56 := Nat.mod_eq_of_lt (by omega)
    rw [en5]
    have hk47 : IntKind.i64.wrap (((n / 2 ^ 56 : Nat) : Int) - 47) = ((n / 2 ^ 56 : Nat) : Int) - 47 := by rw [w64 (by omega) (by omega)]
    try simp (disch := first | omega | (simp only [PL]; omega)) only [PS, P1, P2, P3, P4, P5, P6, P7, P8, PA, PB, PC, Nat.reduceAdd, Nat.reduceSub, Nat.reduceMul, Nat.reduceLeDiff, Nat.reduceEqDiff, Nat.succ_ne_self, reduceCtorEq, Int.reduceToNat, Int.cast_ofNat_Int, Int.reduceEq, Int.reduceNe, Int.reduceLT, Int.reduceLE, hk47]
    refine i_st ho611 4 1 rfl rfl (by omega) (by simp) fun o12 hob12 _ => ?_
    have hobA : objAt (h11.set b6 o12) ⟨b6, 0, none⟩ [.int .i64 0, .int .i64 0, .int .i64 0, .int .i64 0, .int .i64 (n / 2 ^ 24 % 2 ^ a.rb : Nat), .int .i64 (n % 2 ^ 24 : Nat)] := hob12 h11 rfl
    have hle12 : Heap.le h (h11.set b6 o12) := but.le (b := b6) hle11 hb6h fun x hx => Heap.set_ne hx
    generalize h11.set b6 o12 = h12 at *
    try simp (disch := first | omega | (simp only [PL]; omega)) only [PS, P1, P2, P3, P4, P5, P6, P7, P8, PA, PB, PC, Nat.reduceAdd, Nat.reduceSub, Nat.reduceMul, Nat.reduceLeDiff, Nat.reduceEqDiff, Nat.succ_ne_self, reduceCtorEq, Int.reduceToNat, Int.cast_ofNat_Int, Int.reduceEq, Int.reduceNe, Int.reduceLT, Int.reduceLE]
    refine i_st hobA 3 1 rfl rfl (by omega) (by simp) fun o13 hob13 _ => ?_
    have hobB : objAt (h12.set b6 o13) ⟨b6, 0, none⟩ [.int .i64 0, .int .i64 0, .int .i64 0, .int .i64 (n / 2 ^ (24 + a.rb) % 2 ^ a.cb : Nat), .int .i64 (n / 2 ^ 24 % 2 ^ a.rb : Nat), .int .i64 (n % 2 ^ 24 : Nat)] := hob13 h12 rfl
    have hle13 : Heap.le h (h12.set b6 o13) := but.le (b := b6) hle12 hb6h fun x hx => Heap.set_ne hx
    generalize h12.set b6 o13 = h13 at *
    try simp (disch := first | omega | (simp only [PL]; omega)) only [PS, P1, P2, P3, P4, P5, P6, P7, P8, PA, PB, PC, Nat.reduceAdd, Nat.reduceSub, Nat.reduceMul, Nat.reduceLeDiff, Nat.reduceEqDiff, Nat.succ_ne_self, reduceCtorEq, Int.reduceToNat, Int.cast_ofNat_Int, Int.reduceEq, Int.reduceNe, Int.reduceLT, Int.reduceLE]
    refine i_st hobB 2 1 rfl rfl (by omega) (by simp) fun o14 hob14 _ => ?_
    have hobC : objAt (h13.set b6 o14) ⟨b6, 0, none⟩ [.int .i64 0, .int .i64 0, .int .i64 (n / 2 ^ 50 % 2 ^ 3 : Nat), .int .i64 (n / 2 ^ (24 + a.rb) % 2 ^ a.cb : Nat), .int .i64 (n / 2 ^ 24 % 2 ^ a.rb : Nat), .int .i64 (n % 2 ^ 24 : Nat)] := hob14 h13 rfl
    have hle14 : Heap.le h (h13.set b6 o14) := but.le (b := b6) hle13 hb6h fun x hx => Heap.set_ne hx
    generalize h13.set b6 o14 = h14 at *
    try simp (disch := first | omega | (simp only [PL]; omega)) only [PS, P1, P2, P3, P4, P5, P6, P7, P8, PA, PB, PC, Nat.reduceAdd, Nat.reduceSub, Nat.reduceMul, Nat.reduceLeDiff, Nat.reduceEqDiff, Nat.succ_ne_self, reduceCtorEq, Int.reduceToNat, Int.cast_ofNat_Int, Int.reduceEq, Int.reduceNe, Int.reduceLT, Int.reduceLE]
    refine i_st hobC 1 1 rfl rfl (by omega) (by simp) fun o15 hob15 _ => ?_
    have hobD : objAt (h14.set b6 o15) ⟨b6, 0, none⟩ [.int .i64 0, .int .i64 (n / 2 ^ 53 % 2 ^ 3 : Nat), .int .i64 (n / 2 ^ 50 % 2 ^ 3 : Nat), .int .i64 (n / 2 ^ (24 + a.rb) % 2 ^ a.cb : Nat), .int .i64 (n / 2 ^ 24 % 2 ^ a.rb : Nat), .int .i64 (n % 2 ^ 24 : Nat)] := hob15 h14 rfl
    have hle15 : Heap.le h (h14.set b6 o15) := but.le (b := b6) hle14 hb6h fun x hx => Heap.set_ne hx
    generalize h14.set b6 o15 = h15 at *
    try simp (disch := first | omega | (simp only [PL]; omega)) only [PS, P1, P2, P3, P4, P5, P6, P7, P8, PA, PB, PC, Nat.reduceAdd, Nat.reduceSub, Nat.reduceMul, Nat.reduceLeDiff, Nat.reduceEqDiff, Nat.succ_ne_self, reduceCtorEq, Int.reduceToNat, Int.cast_ofNat_Int, Int.reduceEq, Int.reduceNe, Int.reduceLT, Int.reduceLE]
    refine i_st hobD 0 1 rfl rfl (by omega) (by simp) fun o16 hob16 _ => ?_
    have hobE : objAt (h15.set b6 o16) ⟨b6, 0, none⟩ [.int .i64 (((n / 2 ^ 56 : Nat) : Int) - 47), .int .i64 (n / 2 ^ 53 % 2 ^ 3 : Nat), .int .i64 (n / 2 ^ 50 % 2 ^ 3 : Nat), .int .i64 (n / 2 ^ (24 + a.rb) % 2 ^ a.cb : Nat), .int .i64 (n / 2 ^ 24 % 2 ^ a.rb : Nat), .int .i64 (n % 2 ^ 24 : Nat)] := hob16 h15 rfl
    have hle16 : Heap.le h (h15.set b6 o16) := but.le (b := b6) hle15 hb6h fun x hx => Heap.set_ne hx
    generalize h15.set b6 o16 = h16 at *
    have hrowG : ∀ H, Heap.le h16 H → H.row ⟨b6, 0, none⟩ 6 = some #[.int .i64 (((n / 2 ^ 56 : Nat) : Int) - 47), .int .i64 (n / 2 ^ 53 % 2 ^ 3 : Nat), .int .i64 (n / 2 ^ 50 % 2 ^ 3 : Nat), .int .i64 (n / 2 ^ (24 + a.rb) % 2 ^ a.cb : Nat), .int .i64 (n / 2 ^ 24 % 2 ^ a.rb : Nat), .int .i64 (n % 2 ^ 24 : Nat)] := fun H hl => (hobE.le hl).rules.2.2
    have hrow := hrowG h16 (Heap.le.refl h16)
    try simp (disch := first | omega | (simp only [PL]; omega)) only [PS, P1, P2, P3, P4, P5, P6, P7, P8, PA, PB, PC, Nat.reduceAdd, Nat.reduceSub, Nat.reduceMul, Nat.reduceLeDiff, Nat.reduceEqDiff, Nat.succ_ne_self, reduceCtorEq, Int.reduceToNat, Int.cast_ofNat_Int, Int.reduceEq, Int.reduceNe, Int.reduceLT, Int.reduceLE, hrow]
    refine i_call H108 ⟨tagAt n a, rfl, fun h17 hle17 => ?_⟩
    have hrow2 := hrowG h17 hle17
    dsimp only at hK
    by_cases hbad : (tagAt n a).bad
    · rw [fault_bad hbad]
      simp only [if_pos hbad, Option.getD, Option.isSome, Tg.zero, aggT, Bool.false_eq_true, if_false, errV_succ] at hK ⊢
      try simp (disch := first | omega | (simp only [PL]; omega)) only [PS, P1, P2, P3, P4, P5, P6, P7, P8, PA, PB, PC, Nat.reduceAdd, Nat.reduceSub, Nat.reduceMul, Nat.reduceLeDiff, Nat.reduceEqDiff, Nat.succ_ne_self, reduceCtorEq, Int.reduceToNat, Int.cast_ofNat_Int, Int.reduceEq, Int.reduceNe, Int.reduceLT, Int.reduceLE]
      exact hK h17 (hle16.trans hle17)
    · rw [fault_ok hbad]
      simp only [if_neg hbad] at hK
      simp only [Option.getD, Option.isSome, aggT, tagAt, if_true, errV_zero] at hK ⊢
      try simp (disch := first | omega | (simp only [PL]; omega)) only [PS, P1, P2, P3, P4, P5, P6, P7, P8, PA, PB, PC, Nat.reduceAdd, Nat.reduceSub, Nat.reduceMul, Nat.reduceLeDiff, Nat.reduceEqDiff, Nat.succ_ne_self, reduceCtorEq, Int.reduceToNat, Int.cast_ofNat_Int, Int.reduceEq, Int.reduceNe, Int.reduceLT, Int.reduceLE, hrow2]
      exact hK h17 (hle16.trans hle17)
end Go.Cw
namespace Go.Cw
open Go

theorem kindOf_some (b : List UInt8) : kindOf b = ((tagOf b).getD Tg.zero).kind := by unfold kindOf; cases tagOf b <;> rfl
def S83 : Spec := fun args h K => ∃ b, args = [.string (str b)] ∧ ∀ h', Heap.le h h' → K (.int .i64 (kindOf b)) h'
theorem F83_ok {N : Num} {Γ : Ctx} [GoodC Γ] (H110 : Sat S110 (Γ 110)) : Sat S83 (SF N Γ F83) := by
  rintro _ h K ⟨b, rfl, hK⟩
  refine i_fun rfl ?_
  simp only [F83, env0, List.map, List.length, List.replicate, List.cons_append, List.nil_append, Nat.reduceSub, Nat.reduceAdd]
  try simp (disch := first | omega | (simp only [PL]; omega)) only [PS, P1, P2, P3, P4, P5, P6, P7, P8, PA, PB, PC, Nat.reduceAdd, Nat.reduceSub, Nat.reduceMul, Nat.reduceLeDiff, Nat.reduceEqDiff, Nat.succ_ne_self, reduceCtorEq, Int.reduceToNat, Int.cast_ofNat_Int, Int.reduceEq, Int.reduceNe, Int.reduceLT, Int.reduceLE]
  refine i_call H110 ⟨b, rfl, fun h1 hle1 => ?_⟩
  have := hK h1 hle1
  rw [kindOf_some] at this
  unfold tgV aggT
  cases ht : tagOf b with
  | none =>
    rw [ht] at this
    simp only [Option.getD, Option.isSome, Tg.zero] at this ⊢
    try simp (disch := first | omega | (simp only [PL]; omega)) only [PS, P1, P2, P3, P4, P5, P6, P7, P8, PA, PB, PC, Nat.reduceAdd, Nat.reduceSub, Nat.reduceMul, Nat.reduceLeDiff, Nat.reduceEqDiff, Nat.succ_ne_self, reduceCtorEq, Int.reduceToNat, Int.cast_ofNat_Int, Int.reduceEq, Int.reduceNe, Int.reduceLT, Int.reduceLE]
    exact this
  | some t =>
    rw [ht] at this
    simp only [Option.getD, Option.isSome] at this ⊢
    try simp (disch := first | omega | (simp only [PL]; omega)) only [PS, P1, P2, P3, P4, P5, P6, P7, P8, PA, PB, PC, Nat.reduceAdd, Nat.reduceSub, Nat.reduceMul, Nat.reduceLeDiff, Nat.reduceEqDiff, Nat.succ_ne_self, reduceCtorEq, Int.reduceToNat, Int.cast_ofNat_Int, Int.reduceEq, Int.reduceNe, Int.reduceLT, Int.reduceLE]
    exact this
def S66 : Spec := S83
theorem F66_ok {N : Num} {Γ : Ctx} [GoodC Γ] (H81 : Sat (S81 N) (Γ 81)) : Sat S66 (SF N Γ F66) := by
  rintro _ h K ⟨b, rfl, hK⟩
  refine i_fun rfl ?_
  simp only [F66, env0, List.map, List.length, List.replicate, List.cons_append, List.nil_append, Nat.reduceSub, Nat.reduceAdd]
  try simp (disch := first | omega | (simp only [PL]; omega)) only [PS, P1, P2, P3, P4, P5, P6, P7, P8, PA, PB, PC, Nat.reduceAdd, Nat.reduceSub, Nat.reduceMul, Nat.reduceLeDiff, Nat.reduceEqDiff, Nat.succ_ne_self, reduceCtorEq, Int.reduceToNat, Int.cast_ofNat_Int, Int.reduceEq, Int.reduceNe, Int.reduceLT, Int.reduceLE]
  refine i_call H81 ⟨b, rfl, fun h1 hle1 => ?_⟩
  have := hK h1 hle1
  rw [kindOf_some] at this
  unfold tgV aggT
  cases ht : tagOf b with
  | none =>
    rw [ht] at this
    simp only [Option.getD, Option.isSome, Tg.zero, Bool.false_eq_true, if_false, errV_succ] at this ⊢
    try simp (disch := first | omega | (simp only [PL]; omega)) only [PS, P1, P2, P3, P4, P5, P6, P7, P8, PA, PB, PC, Nat.reduceAdd, Nat.reduceSub, Nat.reduceMul, Nat.reduceLeDiff, Nat.reduceEqDiff, Nat.succ_ne_self, reduceCtorEq, Int.reduceToNat, Int.cast_ofNat_Int, Int.reduceEq, Int.reduceNe, Int.reduceLT, Int.reduceLE]
    exact this
  | some t =>
    rw [ht] at this
    simp only [Option.getD, Option.isSome, if_true, errV_zero] at this ⊢
    try simp (disch := first | omega | (simp only [PL]; omega)) only [PS, P1, P2, P3, P4, P5, P6, P7, P8, PA, PB, PC, Nat.reduceAdd, Nat.reduceSub, Nat.reduceMul, Nat.reduceLeDiff, Nat.reduceEqDiff, Nat.succ_ne_self, reduceCtorEq, Int.reduceToNat, Int.cast_ofNat_Int, Int.reduceEq, Int.reduceNe, Int.reduceLT, Int.reduceLE]
    exact this

def encBl (b : Bool) : List Value := [.bool b]
def bitsN (n k : Nat) : List Bool := (List.range k).map fun i => decide (n / 2 ^ (k - 1 - i) % 2 = 1)
theorem bitsN_len (n k : Nat) : (bitsN n k).length = k := by simp [bitsN]
theorem bitsN_get (n k i : Nat) (hi : i < k) : (bitsN n k).getD i false = decide (n / 2 ^ (k - 1 - i) % 2 = 1) := by
  simp [bitsN, List.getD, hi]
theorem and_one_i64 (x : Nat) (hx : x < 2 ^ 63) : binV .and (.int .i64 (x : Int)) (.int .i64 1) = some (.int .i64 ((x % 2 : Nat) : Int)) := by
  have hb : (BitVec.ofInt IntKind.i64.bits (x : Int) &&& BitVec.ofInt IntKind.i64.bits (1 : Int)).toNat = x % 2 := by
    rw [BitVec.toNat_and, bits_nat IntKind.i64.bits x (by simp [IntKind.bits]; omega), show (1 : Int) = ((1 : Nat) : Int) from rfl, bits_nat IntKind.i64.bits 1 (by simp [IntKind.bits]), Nat.and_one_is_mod]
  simp only [binV, intV, if_true]
  rw [hb, w64 (by omega) (by omega)]
def S80 : Spec := fun args h K => ∃ h0 v l, ∃ n many : Nat, args = [v, .int .i64 n, .int .i64 many] ∧ OwnS encBl 1 h0 h v l ∧ n < 2 ^ 63 ∧ many ≤ 60 ∧ l.length ≤ 1000 ∧
  ∀ v' h', OwnS encBl 1 h0 h' v' (l ++ bitsN n many) → K v' h'
theorem F80_ok {N : Num} {Γ : Ctx} [GoodC Γ] : Sat S80 (SF N Γ F80) := by
  rintro _ h K ⟨h0, v, l, n, many, rfl, hv, hn, hm, hl, hK⟩
  refine i_fun rfl ?_
  simp only [F80, env0, List.map, List.length, List.replicate, List.cons_append, List.nil_append, Nat.reduceSub, Nat.reduceAdd]
  try simp (disch := first | omega | (simp only [PL]; omega)) only [PS, P1, P2, P3, P4, P5, P6, P7, P8, PA, PB, PC, Nat.reduceAdd, Nat.reduceSub, Nat.reduceMul, Nat.reduceLeDiff, Nat.reduceEqDiff, Nat.succ_ne_self, reduceCtorEq, Int.reduceToNat, Int.cast_ofNat_Int, Int.reduceEq, Int.reduceNe, Int.reduceLT, Int.reduceLE]
  refine i_loop (fun s : Nat × Value => [some s.2, some (.int .i64 n), some (.int .i64 many), none, some (.int .i64 ((many : Int) - 1 - s.1)), none, none, none, none])
    (fun s h1 => s.1 ≤ many ∧ OwnS encBl 1 h0 h1 s.2 (l ++ (bitsN n many).take s.1)) (fun s => many - s.1) (0, v) (by try simp only [Pe, and_true, true_and, and_self]; simp; rw [w64 (by omega) (by omega)]) ⟨by dsimp only; omega, by simpa using hv⟩ ?_
  rintro ⟨j, v1⟩ h1 ⟨hj, ho⟩
  dsimp only at hj ho ⊢
  try simp (disch := first | omega | (simp only [PL]; omega)) only [PS, P1, P2, P3, P4, P5, P6, P7, P8, PA, PB, PC, Nat.reduceAdd, Nat.reduceSub, Nat.reduceMul, Nat.reduceLeDiff, Nat.reduceEqDiff, Nat.succ_ne_self, reduceCtorEq, Int.reduceToNat, Int.cast_ofNat_Int, Int.reduceEq, Int.reduceNe, Int.reduceLT, Int.reduceLE]
  refine i_cond (fun c => ?_) (fun c => ?_)
  · have hj2 : j < many := by omega
    have hi : ((many : Int) - 1 - j) = ((many - 1 - j : Nat) : Int) := by omega
    have hsr := shr_nat .i64 .i64 n (many - 1 - j) (by simp [IntKind.bits]; omega)
    have han := and_one_i64 (n / 2 ^ (many - 1 - j)) (Nat.lt_of_le_of_lt (Nat.div_le_self _ _) hn)
    rw [← hi] at hsr
    try simp (disch := first | omega | (simp only [PL]; omega)) only [PS, P1, P2, P3, P4, P5, P6, P7, P8, PA, PB, PC, Nat.reduceAdd, Nat.reduceSub, Nat.reduceMul, Nat.reduceLeDiff, Nat.reduceEqDiff, Nat.succ_ne_self, reduceCtorEq, Int.reduceToNat, Int.cast_ofNat_Int, Int.reduceEq, Int.reduceNe, Int.reduceLT, Int.reduceLE, hsr, han]
    refine i_bslB encBl 1 (fun _ => rfl) [decide (n / 2 ^ (many - 1 - j) % 2 = 1)] ?_ rfl (by simp [maxLen]) fun x1 b1 h2 hle2 hb1 hx1 hS1 => ?_
    · simp only [encBl, List.flatMap_cons, List.flatMap_nil, List.append_nil]
      have : (((n / 2 ^ (many - 1 - j) % 2 : Nat) : Int) = 1) = (n / 2 ^ (many - 1 - j) % 2 = 1) := by rw [eq_iff_iff]; omega
      simp only [this]
    have O2 := hS1.one
    try simp (disch := first | omega | (simp only [PL]; omega)) only [PS, P1, P2, P3, P4, P5, P6, P7, P8, PA, PB, PC, Nat.reduceAdd, Nat.reduceSub, Nat.reduceMul, Nat.reduceLeDiff, Nat.reduceEqDiff, Nat.succ_ne_self, reduceCtorEq, Int.reduceToNat, Int.cast_ofNat_Int, Int.reduceEq, Int.reduceNe, Int.reduceLT, Int.reduceLE, O2.1, O2.2]
    refine i_app1 (enc := encBl) (fun _ => rfl) (l' := [decide (n / 2 ^ (many - 1 - j) % 2 = 1)]) (by simp [encBl, one]) (ho.le hle2) (SlB.sl (enc := encBl) (fun _ => rfl) (hS1.le (fr_le _ _))) (by simp [bitsN_len]; omega) fun v2 h3 ho3 => ?_
    have hw : IntKind.i64.wrap ((many : Int) - 1 - j - 1) = (many : Int) - 1 - ((j + 1 : Nat) : Int) := by rw [w64 (by omega) (by omega)]; omega
    try simp (disch := first | omega | (simp only [PL]; omega)) only [PS, P1, P2, P3, P4, P5, P6, P7, P8, PA, PB, PC, Nat.reduceAdd, Nat.reduceSub, Nat.reduceMul, Nat.reduceLeDiff, Nat.reduceEqDiff, Nat.succ_ne_self, reduceCtorEq, Int.reduceToNat, Int.cast_ofNat_Int, Int.reduceEq, Int.reduceNe, Int.reduceLT, Int.reduceLE, hw]
    refine k_loop (j + 1, v2) (by dsimp only; omega) (by dsimp only; try simp only [Pe, and_true, true_and, and_self]) ⟨by dsimp only; omega, ?_⟩
    rw [take_succ_d false (by rw [bitsN_len]; exact hj2), bitsN_get _ _ _ hj2, ← List.append_assoc]
    exact ho3
  · have : j = many := by omega
    subst this
    rw [List.take_of_length_le (by rw [bitsN_len]; omega)] at ho
    try simp (disch := first | omega | (simp only [PL]; omega)) only [PS, P1, P2, P3, P4, P5, P6, P7, P8, PA, PB, PC, Nat.reduceAdd, Nat.reduceSub, Nat.reduceMul, Nat.reduceLeDiff, Nat.reduceEqDiff, Nat.succ_ne_self, reduceCtorEq, Int.reduceToNat, Int.cast_ofNat_Int, Int.reduceEq, Int.reduceNe, Int.reduceLT, Int.reduceLE]
    exact hK _ _ ho
end Go.Cw
namespace Go.Cw
open Go

def valB (l : List Bool) : Nat := l.foldl (fun a x => 2 * a + x.toNat) 0
theorem valB_snoc (l : List Bool) (x : Bool) : valB (l ++ [x]) = 2 * valB l + x.toNat := by simp [valB]
theorem valB_lt (l : List Bool) : valB l < 2 ^ l.length := by
  induction l using snoc_ind with
  | h0 => simp [valB]
  | hs l x ih => rw [valB_snoc, List.length_append, List.length_singleton, Nat.pow_succ]; have := Bool.toNat_lt x; omega
/-- the bits of a tag -/
def tagBits (t : Tg) (a : Pa) : List Bool := bitsN (47 + t.kind).toNat 8 ++ bitsN t.filter.toNat 3 ++ bitsN t.part.toNat 3 ++ bitsN t.company.toNat a.cb ++ bitsN t.ref.toNat a.rb ++ bitsN t.serial.toNat 24
theorem tagBits_len (t : Tg) {a : Pa} (h : partsOf t.part = some a) : (tagBits t a).length = 64 := by
  have := partsOf_some h
  simp only [tagBits, List.length_append, bitsN_len]; omega
def packB (B : List Bool) : List UInt8 := (List.range 8).map fun i => UInt8.ofNat (valB ((B.drop (8 * i)).take 8))
theorem packB_len (B : List Bool) : (packB B).length = 8 := by simp [packB]
theorem packB_get (B : List Bool) {i : Nat} (hi : i < 8) : (packB B).getD i 0 = UInt8.ofNat (valB ((B.drop (8 * i)).take 8)) := by simp [packB, List.getD, hi]
def bytesOf (t : Tg) : List UInt8 := packB (tagBits t ((partsOf t.part).getD default))

def S65 : Spec := fun args h K => ∃ t a, args = [aggT t] ∧ partsOf t.part = some a ∧ 0 ≤ 47 + t.kind ∧ t.kind < 2 ^ 62 ∧ 0 ≤ t.filter ∧ t.filter < 2 ^ 62 ∧ 0 ≤ t.company ∧ t.company < 2 ^ 62 ∧ 0 ≤ t.ref ∧ t.ref < 2 ^ 62 ∧ 0 ≤ t.serial ∧ t.serial < 2 ^ 62 ∧ ∀ h', Heap.le h h' → K (.string (str (bytesOf t))) h'
theorem F65_ok {N : Num} {Γ : Ctx} [GoodC Γ] (H79 : Sat S79 (Γ 79)) (H80 : Sat S80 (Γ 80)) : Sat S65 (SF N Γ F65) := by
  rintro _ h K ⟨t, a, rfl, hp, k1, k2, f1, f2, c1, c2, r1, r2, s1, s2, hK⟩
  have hpa := partsOf_some hp
  have hp6 : 0 ≤ t.part ∧ t.part < 6 := by
    refine Classical.byContradiction fun hc => ?_
    rw [partsOf_none.2 (by omega)] at hp; cases hp
  unfold bytesOf at hK
  rw [hp] at hK
  have hBl := tagBits_len t hp
  simp only [Option.getD] at hK
  refine i_fun rfl ?_
  simp only [F65, env0, List.map, List.length, List.replicate, List.cons_append, List.nil_append, Nat.reduceSub, Nat.reduceAdd, aggT]
  try simp (disch := first | omega | (simp only [PL]; omega)) only [PS, P1, P2, P3, P4, P5, P6, P7, P8, PA, PB, PC, Nat.reduceAdd, Nat.reduceSub, Nat.reduceMul, Nat.reduceLeDiff, Nat.reduceEqDiff, Nat.succ_ne_self, reduceCtorEq, Int.reduceToNat, Int.cast_ofNat_Int, Int.reduceEq, Int.reduceNe, Int.reduceLT, Int.reduceLE]
  refine i_call H79 ⟨t.part, rfl, ?_⟩
  simp only [paV, hp, Option.elim, Pa.enc]
  try simp (disch := first | omega | (simp only [PL]; omega)) only [PS, P1, P2, P3, P4, P5, P6, P7, P8, PA, PB, PC, Nat.reduceAdd, Nat.reduceSub, Nat.reduceMul, Nat.reduceLeDiff, Nat.reduceEqDiff, Nat.succ_ne_self, reduceCtorEq, Int.reduceToNat, Int.cast_ofNat_Int, Int.reduceEq, Int.reduceNe, Int.reduceLT, Int.reduceLE]
  refine i_newO fun b3 h1 hle1 hb3 ho3 => ?_
  try simp (disch := first | omega | (simp only [PL]; omega)) only [PS, P1, P2, P3, P4, P5, P6, P7, P8, PA, PB, PC, Nat.reduceAdd, Nat.reduceSub, Nat.reduceMul, Nat.reduceLeDiff, Nat.reduceEqDiff, Nat.succ_ne_self, reduceCtorEq, Int.reduceToNat, Int.cast_ofNat_Int, Int.reduceEq, Int.reduceNe, Int.reduceLT, Int.reduceLE]
  refine i_st (ho3.le (fr_le h h1)) 0 4 rfl rfl (by omega) (Nat.le_refl 4) fun o hob _ => ?_
  have hob2 : objAt (h1.set b3 o) ⟨b3, 0, none⟩ [.int .i64 a.cb, .int .i64 a.cd, .int .i64 a.rb, .int .i64 a.rd] := hob h1 rfl
  have hle2 : Heap.le h (h1.set b3 o) := but.le (b := b3) hle1 hb3 fun x hx => Heap.set_ne hx
  generalize h1.set b3 o = h2 at *
  have B0 := fun H (hl : Heap.le h2 H) => ((hob2.le hl).rules.2.1 (by simp) : H.cell ⟨b3, 0, none⟩ = some (.int .i64 a.cb))
  have B2 := fun H (hl : Heap.le h2 H) => ((hob2.le hl).rules.1 2 (by simp) : H.cell ((⟨b3, 0, none⟩ : Addr).add 2) = some (.int .i64 a.rb))
  have haa0 : ∀ h (k : IntKind), o2V h (.aadr 4 1) (.v (.pointer (some ⟨b3, 0, none⟩))) (.v (.int k 0)) = some (.v (.pointer (some ⟨b3, 0, none⟩))) := fun h k => rfl
  have haa2 : ∀ h (k : IntKind), o2V h (.aadr 4 1) (.v (.pointer (some ⟨b3, 0, none⟩))) (.v (.int k 2)) = some (.v (.pointer (some ((⟨b3, 0, none⟩ : Addr).add 2)))) := fun h k => rfl
  obtain ⟨kn, hkn⟩ : ∃ n : Nat, 47 + t.kind = n := ⟨(47 + t.kind).toNat, by omega⟩
  obtain ⟨fn, hfn⟩ : ∃ n : Nat, t.filter = n := ⟨t.filter.toNat, by omega⟩
  obtain ⟨pn, hpn⟩ : ∃ n : Nat, t.part = n := ⟨t.part.toNat, by omega⟩
  obtain ⟨cn, hcn⟩ : ∃ n : Nat, t.company = n := ⟨t.company.toNat, by omega⟩
  obtain ⟨rn, hrn⟩ : ∃ n : Nat, t.ref = n := ⟨t.ref.toNat, by omega⟩
  obtain ⟨sn, hsn⟩ : ∃ n : Nat, t.serial = n := ⟨t.serial.toNat, by omega⟩
  have hB : tagBits t a = bitsN kn 8 ++ bitsN fn 3 ++ bitsN pn 3 ++ bitsN cn a.cb ++ bitsN rn a.rb ++ bitsN sn 24 := by
    simp only [tagBits, hkn, hfn, hpn, hcn, hrn, hsn, Int.toNat_natCast]
  have hkw : IntKind.i64.wrap (47 + t.kind) = (kn : Int) := by rw [w64 (by omega) (by omega), hkn]
  generalize hBg : tagBits t a = B at *
  rw [hfn, hpn, hcn, hrn, hsn]
  try simp (disch := first | omega | (simp only [PL]; omega)) only [PS, P1, P2, P3, P4, P5, P6, P7, P8, PA, PB, PC, Nat.reduceAdd, Nat.reduceSub, Nat.reduceMul, Nat.reduceLeDiff, Nat.reduceEqDiff, Nat.succ_ne_self, reduceCtorEq, Int.reduceToNat, Int.cast_ofNat_Int, Int.reduceEq, Int.reduceNe, Int.reduceLT, Int.reduceLE, hkw]
  refine i_call H80 ⟨h2, .slice none 0 0, [], kn, 8, rfl, OwnS.nil (Heap.le.refl h2), by omega, by omega, by simp, fun v4 h4 ho4 => ?_⟩
  rw [List.nil_append] at ho4
  try simp (disch := first | omega | (simp only [PL]; omega)) only [PS, P1, P2, P3, P4, P5, P6, P7, P8, PA, PB, PC, Nat.reduceAdd, Nat.reduceSub, Nat.reduceMul, Nat.reduceLeDiff, Nat.reduceEqDiff, Nat.succ_ne_self, reduceCtorEq, Int.reduceToNat, Int.cast_ofNat_Int, Int.reduceEq, Int.reduceNe, Int.reduceLT, Int.reduceLE]
  refine i_call H80 ⟨h2, v4, _, fn, 3, rfl, ho4, by omega, by omega, by simp [bitsN_len], fun v5 h5 ho5 => ?_⟩
  try simp (disch := first | omega | (simp only [PL]; omega)) only [PS, P1, P2, P3, P4, P5, P6, P7, P8, PA, PB, PC, Nat.reduceAdd, Nat.reduceSub, Nat.reduceMul, Nat.reduceLeDiff, Nat.reduceEqDiff, Nat.succ_ne_self, reduceCtorEq, Int.reduceToNat, Int.cast_ofNat_Int, Int.reduceEq, Int.reduceNe, Int.reduceLT, Int.reduceLE]
  refine i_call H80 ⟨h2, v5, _, pn, 3, rfl, ho5, by omega, by omega, by simp [bitsN_len], fun v6 h6 ho6 => ?_⟩
  have B06 := B0 h6 ho6.1
  try simp (disch := first | omega | (simp only [PL]; omega)) only [PS, P1, P2, P3, P4, P5, P6, P7, P8, PA, PB, PC, Nat.reduceAdd, Nat.reduceSub, Nat.reduceMul, Nat.reduceLeDiff, Nat.reduceEqDiff, Nat.succ_ne_self, reduceCtorEq, Int.reduceToNat, Int.cast_ofNat_Int, Int.reduceEq, Int.reduceNe, Int.reduceLT, Int.reduceLE, haa0, B06]
  refine i_call H80 ⟨h2, v6, _, cn, a.cb, rfl, ho6, by omega, by omega, by simp [bitsN_len], fun v7 h7 ho7 => ?_⟩
  have B27 := B2 h7 ho7.1
  try simp (disch := first | omega | (simp only [PL]; omega)) only [PS, P1, P2, P3, P4, P5, P6, P7, P8, PA, PB, PC, Nat.reduceAdd, Nat.reduceSub, Nat.reduceMul, Nat.reduceLeDiff, Nat.reduceEqDiff, Nat.succ_ne_self, reduceCtorEq, Int.reduceToNat, Int.cast_ofNat_Int, Int.reduceEq, Int.reduceNe, Int.reduceLT, Int.reduceLE, haa2, B27]
  refine i_call H80 ⟨h2, v7, _, rn, a.rb, rfl, ho7, by omega, by omega, by simp [bitsN_len]; omega, fun v8 h8 ho8 => ?_⟩
  try simp (disch := first | omega | (simp only [PL]; omega)) only [PS, P1, P2, P3, P4, P5, P6, P7, P8, PA, PB, PC, Nat.reduceAdd, Nat.reduceSub, Nat.reduceMul, Nat.reduceLeDiff, Nat.reduceEqDiff, Nat.succ_ne_self, reduceCtorEq, Int.reduceToNat, Int.cast_ofNat_Int, Int.reduceEq, Int.reduceNe, Int.reduceLT, Int.reduceLE]
  refine i_call H80 ⟨h2, v8, _, sn, 24, rfl, ho8, by omega, by omega, by simp [bitsN_len]; omega, fun v9 h9 ho9 => ?_⟩
  rw [← hB] at ho9
  have hS9 := ho9.sl (enc := encBl) (fun _ => rfl)
  have hle9 := hle2.trans ho9.1
  clear ho4 ho5 ho6 ho7 ho8 ho9 B06 B27 hB
  try simp (disch := first | omega | (simp only [PL]; omega)) only [PS, P1, P2, P3, P4, P5, P6, P7, P8, PA, PB, PC, Nat.reduceAdd, Nat.reduceSub, Nat.reduceMul, Nat.reduceLeDiff, Nat.reduceEqDiff, Nat.succ_ne_self, reduceCtorEq, Int.reduceToNat, Int.cast_ofNat_Int, Int.reduceEq, Int.reduceNe, Int.reduceLT, Int.reduceLE]
  refine i_loop (fun s : Nat × Value => [some (.agg #[.int .i64 t.kind, .int .i64 fn, .int .i64 pn, .int .i64 cn, .int .i64 rn, .int .i64 sn]), none, some (.string (str [])), some (.pointer (some ⟨b3, 0, none⟩)), some v9, some s.2, some (.int .i64 s.1), none, none, none, none, none, none, none, none, none, none, none, none, none, none, none, none, none])
    (fun s H => s.1 ≤ 8 ∧ OwnS encB 1 h9 H s.2 ((packB B).take s.1)) (fun s => 8 - s.1) (0, .slice none 0 0) (by try simp only [Pe, and_true, true_and, and_self]; rfl) ⟨by dsimp only; omega, OwnS.nil (Heap.le.refl h9)⟩ ?_
  rintro ⟨i, v⟩ H ⟨hi, ho⟩
  dsimp only at hi ho ⊢
  have R9 := (hS9.le ho.1).rules1 (fun b => .bool b) (fun _ => rfl) false
  rw [hBl] at R9
  try simp (disch := first | omega | (simp only [PL]; omega)) only [PS, P1, P2, P3, P4, P5, P6, P7, P8, PA, PB, PC, Nat.reduceAdd, Nat.reduceSub, Nat.reduceMul, Nat.reduceLeDiff, Nat.reduceEqDiff, Nat.succ_ne_self, reduceCtorEq, Int.reduceToNat, Int.cast_ofNat_Int, Int.reduceEq, Int.reduceNe, Int.reduceLT, Int.reduceLE]
  refine i_cond (fun c => ?_) (fun c => ?_)
  rotate_left
  · have : i = 8 := by omega
    subst this
    rw [List.take_of_length_le (by rw [packB_len]; omega)] at ho
    try simp (disch := first | omega | (simp only [PL]; omega)) only [PS, P1, P2, P3, P4, P5, P6, P7, P8, PA, PB, PC, Nat.reduceAdd, Nat.reduceSub, Nat.reduceMul, Nat.reduceLeDiff, Nat.reduceEqDiff, Nat.succ_ne_self, reduceCtorEq, Int.reduceToNat, Int.cast_ofNat_Int, Int.reduceEq, Int.reduceNe, Int.reduceLT, Int.reduceLE, (ho.sl encB_len).b2s]
    exact hK H (hle9.trans ho.1)
  have hi2 : i < 8 := by omega
  try simp (disch := first | omega | (simp only [PL]; omega)) only [PS, P1, P2, P3, P4, P5, P6, P7, P8, PA, PB, PC, Nat.reduceAdd, Nat.reduceSub, Nat.reduceMul, Nat.reduceLeDiff, Nat.reduceEqDiff, Nat.succ_ne_self, reduceCtorEq, Int.reduceToNat, Int.cast_ofNat_Int, Int.reduceEq, Int.reduceNe, Int.reduceLT, Int.reduceLE]
  refine i_loop (fun k : Nat => [some (.agg #[.int .i64 t.kind, .int .i64 fn, .int .i64 pn, .int .i64 cn, .int .i64 rn, .int .i64 sn]), none, some (.string (str [])), some (.pointer (some ⟨b3, 0, none⟩)), some v9, some v, some (.int .i64 i), some (.int .i64 (valB ((B.drop (8 * i)).take k) : Nat)), some (.int .i64 k), none, none, none, none, none, none, none, none, none, none, none, none, none, none, none])
    (fun k H2 => H2 = H ∧ k ≤ 8) (fun k => 8 - k) 0 (by try simp only [Pe, and_true, true_and, and_self]; exact ⟨rfl, rfl⟩) ⟨rfl, by omega⟩ ?_
  rintro k H2 ⟨rfl, hk⟩
  have hvl := valB_lt ((B.drop (8 * i)).take k)
  have hvl2 : valB ((B.drop (8 * i)).take k) < 2 ^ 8 := Nat.lt_of_lt_of_le hvl (Nat.pow_le_pow_right (by omega) (by rw [List.length_take]; omega))
  try simp (disch := first | omega | (simp only [PL]; omega)) only [PS, P1, P2, P3, P4, P5, P6, P7, P8, PA, PB, PC, Nat.reduceAdd, Nat.reduceSub, Nat.reduceMul, Nat.reduceLeDiff, Nat.reduceEqDiff, Nat.succ_ne_self, reduceCtorEq, Int.reduceToNat, Int.cast_ofNat_Int, Int.reduceEq, Int.reduceNe, Int.reduceLT, Int.reduceLE]
  refine i_cond (fun c2 => ?_) (fun c2 => ?_)
  · have hk2 : k < 8 := by omega
    have hidx : IntKind.i64.wrap (IntKind.i64.wrap (8 * (i : Int)) + (k : Int)) = ((8 * i + k : Nat) : Int) := by rw [w64 (n := 8 * (i : Int)) (by omega) (by omega), w64 (by omega) (by omega)]; omega
    have hnx : valB ((B.drop (8 * i)).take (k + 1)) = 2 * valB ((B.drop (8 * i)).take k) + (B.getD (8 * i + k) false).toNat := by
      rw [take_succ_d false (by rw [List.length_drop]; omega), valB_snoc]
      simp [List.getD, List.getElem?_drop]
    have hw2 : IntKind.i64.wrap (2 * (valB ((B.drop (8 * i)).take k) : Int)) = ((2 * valB ((B.drop (8 * i)).take k) : Nat) : Int) := by rw [w64 (by omega) (by omega)]; omega
    try simp (disch := first | omega | (simp only [PL]; omega)) only [PS, P1, P2, P3, P4, P5, P6, P7, P8, PA, PB, PC, Nat.reduceAdd, Nat.reduceSub, Nat.reduceMul, Nat.reduceLeDiff, Nat.reduceEqDiff, Nat.succ_ne_self, reduceCtorEq, Int.reduceToNat, Int.cast_ofNat_Int, Int.reduceEq, Int.reduceNe, Int.reduceLT, Int.reduceLE, hidx, R9, hw2]
    cases hbit : B.getD (8 * i + k) false with
    | true =>
      rw [hbit] at hnx
      have hw3 : IntKind.i64.wrap (((2 * valB ((B.drop (8 * i)).take k) : Nat) : Int) + 1) = ((valB ((B.drop (8 * i)).take (k + 1)) : Nat) : Int) := by rw [hnx, w64 (by omega) (by omega)]; simp
      try simp (disch := first | omega | (simp only [PL]; omega)) only [PS, P1, P2, P3, P4, P5, P6, P7, P8, PA, PB, PC, Nat.reduceAdd, Nat.reduceSub, Nat.reduceMul, Nat.reduceLeDiff, Nat.reduceEqDiff, Nat.succ_ne_self, reduceCtorEq, Int.reduceToNat, Int.cast_ofNat_Int, Int.reduceEq, Int.reduceNe, Int.reduceLT, Int.reduceLE, hw3]
      exact k_loop (k + 1) (by omega) (by try simp only [Pe, and_true, true_and, and_self]) ⟨rfl, by omega⟩
    | false =>
      rw [hbit] at hnx
      have hw3 : ((2 * valB ((B.drop (8 * i)).take k) : Nat) : Int) = ((valB ((B.drop (8 * i)).take (k + 1)) : Nat) : Int) := by rw [hnx]; simp
      rw [hw3]
      try simp (disch := first | omega | (simp only [PL]; omega)) only [PS, P1, P2, P3, P4, P5, P6, P7, P8, PA, PB, PC, Nat.reduceAdd, Nat.reduceSub, Nat.reduceMul, Nat.reduceLeDiff, Nat.reduceEqDiff, Nat.succ_ne_self, reduceCtorEq, Int.reduceToNat, Int.cast_ofNat_Int, Int.reduceEq, Int.reduceNe, Int.reduceLT, Int.reduceLE]
      exact k_loop (k + 1) (by omega) (by try simp only [Pe, and_true, true_and, and_self]) ⟨rfl, by omega⟩
  · have : k = 8 := by omega
    subst this
    generalize hx : valB ((B.drop (8 * i)).take 8) = x at *
    have hb8 : (UInt8.ofNat x).toNat = x := by simp; omega
    have hcv : IntKind.u8.wrap ((x : Nat) : Int) = (((UInt8.ofNat x).toNat : Nat) : Int) := by rw [hb8, w8']; omega
    try simp (disch := first | omega | (simp only [PL]; omega)) only [PS, P1, P2, P3, P4, P5, P6, P7, P8, PA, PB, PC, Nat.reduceAdd, Nat.reduceSub, Nat.reduceMul, Nat.reduceLeDiff, Nat.reduceEqDiff, Nat.succ_ne_self, reduceCtorEq, Int.reduceToNat, Int.cast_ofNat_Int, Int.reduceEq, Int.reduceNe, Int.reduceLT, Int.reduceLE, hcv]
    refine i_bslB encB 1 encB_len [UInt8.ofNat x] rfl rfl (by simp [maxLen]) fun x1 b1 h2' hle2' hb1 hx1 hS1 => ?_
    have O2 := hS1.one
    try simp (disch := first | omega | (simp only [PL]; omega)) only [PS, P1, P2, P3, P4, P5, P6, P7, P8, PA, PB, PC, Nat.reduceAdd, Nat.reduceSub, Nat.reduceMul, Nat.reduceLeDiff, Nat.reduceEqDiff, Nat.succ_ne_self, reduceCtorEq, Int.reduceToNat, Int.cast_ofNat_Int, Int.reduceEq, Int.reduceNe, Int.reduceLT, Int.reduceLE, O2.1, O2.2]
    refine i_app1 (enc := encB) encB_len (l' := [UInt8.ofNat x]) (by simp [encB, one]) (ho.le hle2') (SlB.sl encB_len (hS1.le (fr_le _ _))) (by simp [packB_len]; omega) fun v2 h3 ho3 => ?_
    try simp (disch := first | omega | (simp only [PL]; omega)) only [PS, P1, P2, P3, P4, P5, P6, P7, P8, PA, PB, PC, Nat.reduceAdd, Nat.reduceSub, Nat.reduceMul, Nat.reduceLeDiff, Nat.reduceEqDiff, Nat.succ_ne_self, reduceCtorEq, Int.reduceToNat, Int.cast_ofNat_Int, Int.reduceEq, Int.reduceNe, Int.reduceLT, Int.reduceLE]
    refine k_loop (i + 1, v2) (by dsimp only; omega) (by dsimp only; try simp only [Pe, and_true, true_and, and_self]) ⟨by dsimp only; omega, ?_⟩
    dsimp only
    rw [take_succ_d 0 (by rw [packB_len]; omega), packB_get _ hi2, hx]
    exact ho3
end Go.Cw
/- Who is in whom: the plain part. -/
namespace Go.Cw
open Go

section
variable (w n : Nat) (E : List (List Si))
def atF (e : Nat) (t : List UInt8) : Int := atE w n (E.take (e + 1)) t
def tog1 (a b : List UInt8) (e : Nat) : Nat := if 0 ≤ atF w n E e a ∧ atF w n E e a = atF w n E e b then 1 else 0
def togN (a b : List UInt8) (lo : Nat) : Nat → Nat
  | 0 => 0
  | m + 1 => togN a b lo m + if lo ≤ m then tog1 w n E a b m else 0
/-- in how many of the last epochs two were together -/
def togE (span : Nat) (a b : List UInt8) (e : Nat) : Nat := togN w n E a b (e + 1 - span) (e + 1)
def cand (s p : List UInt8) : Prop := 0 < kindOf s ∧ kindOf s < kindOf p
/-- what a tag's parent is -/
def IsPar (span score e : Nat) (s was r : List UInt8) : Prop :=
  (r = [] ∧ ∀ p, cand s p → togE w n E span s p e < score) ∨
  (∃ M, score ≤ M ∧ cand s r ∧ togE w n E span s r e = M ∧ (∀ p, cand s p → togE w n E span s p e ≤ M) ∧
    (r = was ∨ (¬ (cand s was ∧ togE w n E span s was e = M) ∧ ∀ p, cand s p → togE w n E span s p e = M → p = r ∨ Op.bytesLess r p = true)))
noncomputable def eps (P : List UInt8 → Prop) : List UInt8 := Classical.epsilon P
noncomputable def parE (span score : Nat) (s : List UInt8) : Nat → List UInt8
  | 0 => eps (IsPar w n E span score 0 s [])
  | e + 1 => eps (IsPar w n E span score (e + 1) s (parE span score s e))
/-- who it was in before -/
noncomputable def wasE (span score : Nat) (s : List UInt8) : Nat → List UInt8
  | 0 => []
  | e + 1 => parE w n E span score s e
end
theorem parE_eq {w n : Nat} {E : List (List Si)} {span score : Nat} {s : List UInt8} (e : Nat) : parE w n E span score s e = eps (IsPar w n E span score e s (wasE w n E span score s e)) := by cases e <;> rfl
theorem IsPar.uniq {w n : Nat} {E : List (List Si)} {span score e : Nat} {s was r r' : List UInt8} (h : IsPar w n E span score e s was r) (h' : IsPar w n E span score e s was r') : r = r' := by
  rcases h with ⟨rfl, h⟩ | ⟨M, h1, h2, h3, h4, h5⟩
  · rcases h' with ⟨rfl, _⟩ | ⟨M, g1, g2, g3, g4, g5⟩
    · rfl
    · have := h _ g2; omega
  · rcases h' with ⟨rfl, h⟩ | ⟨M', g1, g2, g3, g4, g5⟩
    · have := h _ h2; omega
    · have hM : M = M' := by have := h4 _ g2; have := g4 _ h2; omega
      subst hM
      rcases h5 with rfl | ⟨h5, h6⟩
      · rcases g5 with e | ⟨g5, _⟩
        · exact e.symm
        · exact absurd ⟨h2, h3⟩ g5
      · rcases g5 with rfl | ⟨g5, g6⟩
        · exact absurd ⟨g2, g3⟩ h5
        · rcases h6 _ g2 g3 with e | h7
          · exact e.symm
          · rcases g6 _ h2 h3 with e | g7
            · exact e
            · rw [bless_asymm h7] at g7; cases g7
theorem par_of {w n : Nat} {E : List (List Si)} {span score e : Nat} {s r : List UInt8} (h : IsPar w n E span score e s (wasE w n E span score s e) r) : parE w n E span score s e = r := by
  rw [parE_eq]
  exact (Classical.epsilon_spec (p := IsPar w n E span score e s (wasE w n E span score s e)) ⟨r, h⟩ : IsPar _ _ _ _ _ _ _ _ _).uniq h
theorem atF_pre {w n : Nat} {E E' : List (List Si)} {e : Nat} {t : List UInt8} (he : e < E.length) : atF w n (E ++ E') e t = atF w n E e t := by
  unfold atF; rw [List.take_append_of_le_length (by omega)]
theorem togN_pre {w n : Nat} {E E' : List (List Si)} {a b : List UInt8} {lo : Nat} : ∀ m, m ≤ E.length → togN w n (E ++ E') a b lo m = togN w n E a b lo m := by
  intro m
  induction m with
  | zero => intro _; rfl
  | succ m ih => intro h; simp only [togN, tog1]; rw [ih (by omega), atF_pre (by omega), atF_pre (by omega)]
theorem togE_pre {w n : Nat} {E E' : List (List Si)} {span : Nat} {a b : List UInt8} {e : Nat} (he : e < E.length) : togE w n (E ++ E') span a b e = togE w n E span a b e := togN_pre _ (by omega)
theorem IsPar_pre {w n : Nat} {E E' : List (List Si)} {span score e : Nat} {s was : List UInt8} (he : e < E.length) : IsPar w n (E ++ E') span score e s was = IsPar w n E span score e s was := by
  funext r
  unfold IsPar
  simp only [togE_pre he]
theorem parE_pre {w n : Nat} {E E' : List (List Si)} {span score : Nat} {s : List UInt8} : ∀ e, e < E.length → parE w n (E ++ E') span score s e = parE w n E span score s e := by
  intro e
  induction e with
  | zero => intro h; simp only [parE, IsPar_pre h]
  | succ e ih => intro h; simp only [parE, IsPar_pre h, ih (by omega)]
theorem atF_told {w n : Nat} {E : List (List Si)} (hn : 1 ≤ n) {e : Nat} {t : List UInt8} (h : 0 ≤ atF w n E e t) : toldE (E.take (e + 1)) t := by
  refine Classical.byContradiction fun hc => ?_
  have : atF w n E e t = -1 := by
    unfold atF atE atW
    refine bestTo_none (fun p => ?_) 8
    unfold cntE
    rw [List.filter_eq_nil_iff.2, List.length_nil]
    · omega
    · intro l hl hs
      obtain ⟨s, h1, h2, _⟩ := of_decide_eq_true hs
      exact hc ⟨l, List.mem_of_mem_drop hl, s, h1, h2⟩
  omega
theorem tog1_told {w n : Nat} {E : List (List Si)} (hn : 1 ≤ n) {a b : List UInt8} {e : Nat} (h : 0 < tog1 w n E a b e) : toldE (E.take (e + 1)) a ∧ toldE (E.take (e + 1)) b := by
  unfold tog1 at h
  split at h
  · rename_i hc; exact ⟨atF_told hn hc.1, atF_told hn (by rw [← hc.2]; exact hc.1)⟩
  · omega
theorem toldE_take {E : List (List Si)} {t : List UInt8} {i j : Nat} (h : i ≤ j) (ht : toldE (E.take i) t) : toldE (E.take j) t := by
  obtain ⟨l, hl, hs⟩ := ht
  refine ⟨l, ?_, hs⟩
  rw [show E.take i = (E.take j).take i by rw [List.take_take, Nat.min_eq_left h]] at hl
  exact List.mem_of_mem_take hl
theorem togN_told {w n : Nat} {E : List (List Si)} (hn : 1 ≤ n) {a b : List UInt8} {lo : Nat} : ∀ m, 0 < togN w n E a b lo m → toldE (E.take m) a ∧ toldE (E.take m) b := by
  intro m
  induction m with
  | zero => intro h; simp [togN] at h
  | succ m ih =>
    intro h
    simp only [togN] at h
    by_cases h1 : 0 < togN w n E a b lo m
    · obtain ⟨q1, q2⟩ := ih h1
      exact ⟨toldE_take (by omega) q1, toldE_take (by omega) q2⟩
    · split at h
      · have h2 : 0 < tog1 w n E a b m := by omega
        exact tog1_told hn h2
      · omega
theorem togE_told {w n : Nat} {E : List (List Si)} (hn : 1 ≤ n) {span : Nat} {a b : List UInt8} {e : Nat} (h : 0 < togE w n E span a b e) : toldE (E.take (e + 1)) a ∧ toldE (E.take (e + 1)) b := togN_told hn _ h
theorem tog1_le {w n : Nat} {E : List (List Si)} {a b : List UInt8} {e : Nat} : tog1 w n E a b e ≤ 1 := by unfold tog1; split <;> omega
theorem togN_le {w n : Nat} {E : List (List Si)} {a b : List UInt8} {lo : Nat} : ∀ m, togN w n E a b lo m ≤ m := by
  intro m
  induction m with
  | zero => simp [togN]
  | succ m ih => have h1 := tog1_le (w := w) (n := n) (E := E) (a := a) (b := b) (e := m); simp only [togN]; split <;> omega
theorem togN_span {w n : Nat} {E : List (List Si)} {a b : List UInt8} {lo : Nat} : ∀ m, togN w n E a b lo m ≤ m - lo := by
  intro m
  induction m with
  | zero => simp [togN]
  | succ m ih => have h1 := tog1_le (w := w) (n := n) (E := E) (a := a) (b := b) (e := m); simp only [togN]; split <;> omega
theorem togE_span {w n : Nat} {E : List (List Si)} {span : Nat} {a b : List UInt8} {e : Nat} : togE w n E span a b e ≤ span := by
  have := togN_span (w := w) (n := n) (E := E) (a := a) (b := b) (lo := e + 1 - span) (e + 1)
  unfold togE; omega
/-- who has no parent -/
theorem par_nil {w n : Nat} {E : List (List Si)} (hn : 1 ≤ n) {span score e : Nat} (hs : 1 ≤ score) {s : List UInt8} (h : kindOf s ≤ 0 ∨ ¬ toldE (E.take (e + 1)) s) : parE w n E span score s e = [] := by
  refine par_of (.inl ⟨rfl, fun p hp => ?_⟩)
  rcases h with h | h
  · have := hp.1; omega
  · refine Nat.lt_of_not_le fun hc => h (togE_told hn (show 0 < togE w n E span s p e by omega)).1
end Go.Cw
/- Who is in whom: what the two loops find. -/
namespace Go.Cw
open Go

/-- the program's loop -/
def FoldP (T : List UInt8 → Nat) (score : Nat) (s was : List UInt8) (pre : List (List UInt8)) (best : List UInt8) (most : Int) : Prop :=
  (best = [] ∧ most = (score : Int) - 1 ∧ ∀ p ∈ pre, cand s p → T p < score) ∨
  ((score : Int) ≤ most ∧ cand s best ∧ best ∈ pre ∧ (T best : Int) = most ∧ (∀ p ∈ pre, cand s p → (T p : Int) ≤ most) ∧
    (best = was ∨ (¬ (was ∈ pre ∧ cand s was ∧ (T was : Int) = most) ∧ ∀ p ∈ pre, cand s p → (T p : Int) = most → p = best ∨ Op.bytesLess best p = true)))
variable {T : List UInt8 → Nat} {score : Nat} {s was : List UInt8} {pre : List (List UInt8)} {best : List UInt8} {most : Int} {p : List UInt8}
theorem FoldP.nil : FoldP T score s was [] [] ((score : Int) - 1) := .inl ⟨rfl, rfl, by simp⟩
theorem FoldP.skip (h : FoldP T score s was pre best most) (hp : ¬ cand s p) : FoldP T score s was (pre ++ [p]) best most := by
  have hm : ∀ {q}, q ∈ pre ++ [p] → cand s q → q ∈ pre := by
    intro q hq hc
    rw [List.mem_append, List.mem_singleton] at hq
    rcases hq with hq | rfl
    · exact hq
    · exact absurd hc hp
  rcases h with ⟨h1, h2, h3⟩ | ⟨h1, h2, h3, h4, h5, h6⟩
  · exact .inl ⟨h1, h2, fun q hq hc => h3 q (hm hq hc) hc⟩
  · refine .inr ⟨h1, h2, by simp [h3], h4, fun q hq hc => h5 q (hm hq hc) hc, h6.imp id fun ⟨a, b⟩ => ⟨fun ⟨q1, q2, q3⟩ => a ⟨hm q1 q2, q2, q3⟩, fun q hq hc => b q (hm hq hc) hc⟩⟩
theorem FoldP.take (h : FoldP T score s was pre best most) (hp : cand s p) (hord : ∀ q ∈ pre, Op.bytesLess q p = true) (hs : 1 ≤ score)
    (hc : most < (T p : Int) ∨ ((T p : Int) = most ∧ (score : Int) ≤ T p ∧ p = was)) : FoldP T score s was (pre ++ [p]) p (T p) := by
  have hall : ∀ q ∈ pre, cand s q → (T q : Int) ≤ T p := by
    intro q hq hcq
    rcases h with ⟨h1, h2, h3⟩ | ⟨h1, h2, h3, h4, h5, h6⟩
    · have := h3 q hq hcq; omega
    · have := h5 q hq hcq; omega
  have hsc : (score : Int) ≤ T p := by
    rcases hc with hc | hc
    · rcases h with ⟨h1, h2, h3⟩ | ⟨h1, h2, h3, h4, h5, h6⟩ <;> omega
    · exact hc.2.1
  refine .inr ⟨hsc, hp, by simp, rfl, fun q hq hcq => ?_, ?_⟩
  · rw [List.mem_append, List.mem_singleton] at hq
    rcases hq with hq | rfl
    · exact hall q hq hcq
    · omega
  · by_cases hw : p = was
    · exact .inl hw
    · refine .inr ?_
      have hgt : most < (T p : Int) := by
        rcases hc with hc | hc
        · exact hc
        · exact absurd hc.2.2 hw
      have hlt : ∀ q ∈ pre, cand s q → (T q : Int) < T p := by
        intro q hq hcq
        rcases h with ⟨h1, h2, h3⟩ | ⟨h1, h2, h3, h4, h5, h6⟩
        · have := h3 q hq hcq; omega
        · have := h5 q hq hcq; omega
      refine ⟨fun ⟨q1, q2, q3⟩ => ?_, fun q hq hcq he => ?_⟩
      · rw [List.mem_append, List.mem_singleton] at q1
        rcases q1 with q1 | e
        · have := hlt _ q1 q2; omega
        · exact hw e.symm
      · rw [List.mem_append, List.mem_singleton] at hq
        rcases hq with hq | rfl
        · have := hlt _ hq hcq; omega
        · exact .inl rfl
theorem FoldP.leave (h : FoldP T score s was pre best most) (hp : cand s p) (hord : ∀ q ∈ pre, Op.bytesLess q p = true)
    (hc : ¬ (most < (T p : Int) ∨ ((T p : Int) = most ∧ (score : Int) ≤ T p ∧ p = was))) : FoldP T score s was (pre ++ [p]) best most := by
  rcases h with ⟨h1, h2, h3⟩ | ⟨h1, h2, h3, h4, h5, h6⟩
  · refine .inl ⟨h1, h2, fun q hq hcq => ?_⟩
    rw [List.mem_append, List.mem_singleton] at hq
    rcases hq with hq | rfl
    · exact h3 q hq hcq
    · omega
  · refine .inr ⟨h1, h2, by simp [h3], h4, fun q hq hcq => ?_, h6.imp id fun ⟨a, b⟩ => ⟨fun ⟨q1, q2, q3⟩ => ?_, fun q hq hcq he => ?_⟩⟩
    · rw [List.mem_append, List.mem_singleton] at hq
      rcases hq with hq | rfl
      · exact h5 q hq hcq
      · omega
    · rw [List.mem_append, List.mem_singleton] at q1
      rcases q1 with q1 | e
      · exact a ⟨q1, q2, q3⟩
      · subst e; exact hc (.inr ⟨q3, by omega, rfl⟩)
    · rw [List.mem_append, List.mem_singleton] at hq
      rcases hq with hq | rfl
      · exact b q hq hcq he
      · exact .inr (hord _ h3)

/-- the model's first loop -/
def MaxP (T : List UInt8 → Nat) (s : List UInt8) (pre : List (List UInt8)) (best : Nat) : Prop :=
  (∀ p ∈ pre, cand s p → T p ≤ best) ∧ (best = 0 ∨ ∃ p ∈ pre, cand s p ∧ T p = best)
theorem MaxP.nil : MaxP T s [] 0 := ⟨by simp, .inl rfl⟩
theorem MaxP.skip {b : Nat} (h : MaxP T s pre b) (hp : ¬ cand s p) : MaxP T s (pre ++ [p]) b := by
  refine ⟨fun q hq hc => ?_, h.2.imp id fun ⟨q, q1, q2⟩ => ⟨q, by simp [q1], q2⟩⟩
  rw [List.mem_append, List.mem_singleton] at hq
  rcases hq with hq | rfl
  · exact h.1 q hq hc
  · exact absurd hc hp
theorem MaxP.more {b : Nat} (h : MaxP T s pre b) (hp : cand s p) : MaxP T s (pre ++ [p]) (max b (T p)) := by
  refine ⟨fun q hq hc => ?_, ?_⟩
  · rw [List.mem_append, List.mem_singleton] at hq
    rcases hq with hq | rfl
    · have := h.1 q hq hc; omega
    · omega
  · rcases Nat.le_total b (T p) with hb | hb
    · exact .inr ⟨p, by simp, hp, by omega⟩
    · refine h.2.imp (fun e => by omega) fun ⟨q, q1, q2, q3⟩ => ⟨q, by simp [q1], q2, by omega⟩
/-- the model's second loop -/
def FirstP (T : List UInt8 → Nat) (s was : List UInt8) (M : Nat) (pre : List (List UInt8)) (first : List UInt8) : Prop :=
  ¬ (was ∈ pre ∧ cand s was ∧ T was = M) ∧ ((first = [] ∧ ∀ p ∈ pre, cand s p → T p ≠ M) ∨ (first ∈ pre ∧ cand s first ∧ T first = M ∧ ∀ p ∈ pre, cand s p → T p = M → p = first ∨ Op.bytesLess first p = true))
theorem FirstP.nil {M : Nat} : FirstP T s was M [] [] := ⟨by simp, .inl ⟨rfl, by simp⟩⟩
theorem cand.ne {q : List UInt8} (h : cand s q) : q ≠ [] := by
  rintro rfl
  have h1 := h.1
  have h2 := h.2
  have : kindOf [] = 0 := by decide
  omega
theorem FirstP.skip {M : Nat} {first : List UInt8} (h : FirstP T s was M pre first) (hp : ¬ (cand s p ∧ T p = M)) : FirstP T s was M (pre ++ [p]) first := by
  have hm : ∀ {q}, q ∈ pre ++ [p] → cand s q → T q = M → q ∈ pre := by
    intro q hq hc ht
    rw [List.mem_append, List.mem_singleton] at hq
    rcases hq with hq | rfl
    · exact hq
    · exact absurd ⟨hc, ht⟩ hp
  refine ⟨fun ⟨q1, q2, q3⟩ => h.1 ⟨hm q1 q2 q3, q2, q3⟩, h.2.imp (fun ⟨a, b⟩ => ⟨a, fun q hq hc ht => b q (hm hq hc ht) hc ht⟩) fun ⟨a, b, c, d⟩ => ⟨by simp [a], b, c, fun q hq hc ht => d q (hm hq hc ht) hc ht⟩⟩
theorem FirstP.take {M : Nat} {first : List UInt8} (h : FirstP T s was M pre first) (hp : cand s p) (ht : T p = M) (hw : p ≠ was) (hord : ∀ q ∈ pre, Op.bytesLess q p = true) : FirstP T s was M (pre ++ [p]) (if first = [] then p else first) := by
  refine ⟨fun ⟨q1, q2, q3⟩ => ?_, .inr ?_⟩
  · rw [List.mem_append, List.mem_singleton] at q1
    rcases q1 with q1 | e
    · exact h.1 ⟨q1, q2, q3⟩
    · exact hw e.symm
  · rcases h.2 with ⟨rfl, hn⟩ | ⟨h1, h2, h3, h4⟩
    · rw [if_pos rfl]
      refine ⟨by simp, hp, ht, fun q hq hc he => ?_⟩
      rw [List.mem_append, List.mem_singleton] at hq
      rcases hq with hq | rfl
      · exact absurd he (hn q hq hc)
      · exact .inl rfl
    · rw [if_neg h2.ne]
      refine ⟨by simp [h1], h2, h3, fun q hq hc he => ?_⟩
      rw [List.mem_append, List.mem_singleton] at hq
      rcases hq with hq | rfl
      · exact h4 q hq hc he
      · exact .inr (hord _ h1)

section
variable {w n : Nat} {E : List (List Si)} {span e : Nat}
/-- at the end -/
theorem FoldP.par {l : List (List UInt8)} (h : FoldP (fun p => togE w n E span s p e) score s was l best most) (hs : 1 ≤ score)
    (hl : ∀ p, cand s p → 0 < togE w n E span s p e → p ∈ l) : IsPar w n E span score e s was best := by
  unfold FoldP at h
  dsimp only at h
  rcases h with ⟨h1, h2, h3⟩ | ⟨h1, h2, h3, h4, h5, h6⟩
  · refine .inl ⟨h1, fun p hp => ?_⟩
    refine Nat.lt_of_not_le fun hc => ?_
    have := h3 p (hl p hp (by omega)) hp
    omega
  · have hM : most = ((togE w n E span s best e : Nat) : Int) := h4.symm
    subst hM
    refine .inr ⟨_, by omega, h2, rfl, fun p hp => ?_, ?_⟩
    · by_cases h0 : 0 < togE w n E span s p e
      · have := h5 p (hl p hp h0) hp; omega
      · omega
    · rcases h6 with h6 | ⟨h6, h7⟩
      · exact .inl h6
      · refine .inr ⟨fun ⟨q1, q2⟩ => h6 ⟨hl _ q1 (by omega), q1, by rw [q2]⟩, fun p hp he => h7 p (hl p hp (by omega)) hp (by rw [he])⟩
theorem MaxP.ltP {l : List (List UInt8)} {b : Nat} (h : MaxP (fun p => togE w n E span s p e) s l b) (hs : 1 ≤ score) (hb : b < score)
    (hl : ∀ p, cand s p → 0 < togE w n E span s p e → p ∈ l) : IsPar w n E span score e s was [] := by
  unfold MaxP at h
  dsimp only at h
  refine .inl ⟨rfl, fun p hp => ?_⟩
  by_cases h0 : 0 < togE w n E span s p e
  · have := h.1 p (hl p hp h0) hp; omega
  · omega
theorem MaxP.wasP {l : List (List UInt8)} {b : Nat} (h : MaxP (fun p => togE w n E span s p e) s l b) (hs : 1 ≤ score) (hb : score ≤ b)
    (hl : ∀ p, cand s p → 0 < togE w n E span s p e → p ∈ l) (hc : cand s was) (ht : togE w n E span s was e = b) : IsPar w n E span score e s was was := by
  unfold MaxP at h
  dsimp only at h
  refine .inr ⟨b, hb, hc, ht, fun p hp => ?_, .inl rfl⟩
  by_cases h0 : 0 < togE w n E span s p e
  · exact h.1 p (hl p hp h0) hp
  · omega
theorem MaxP.firstP {l : List (List UInt8)} {b : Nat} {first : List UInt8} (h : MaxP (fun p => togE w n E span s p e) s l b) (hs : 1 ≤ score) (hb : score ≤ b)
    (hl : ∀ p, cand s p → 0 < togE w n E span s p e → p ∈ l) (hf : FirstP (fun p => togE w n E span s p e) s was b l first) : IsPar w n E span score e s was first := by
  unfold MaxP at h
  unfold FirstP at hf
  dsimp only at h hf
  obtain ⟨p0, q1, q2, q3⟩ : ∃ p ∈ l, cand s p ∧ togE w n E span s p e = b := by
    rcases h.2 with h2 | h2
    · omega
    · exact h2
  rcases hf with ⟨f1, ⟨rfl, f2⟩ | ⟨f2, f3, f4, f5⟩⟩
  · exact absurd q3 (f2 p0 q1 q2)
  · refine .inr ⟨b, hb, f3, f4, fun p hp => ?_, .inr ⟨fun ⟨c1, c2⟩ => f1 ⟨hl _ c1 (by omega), c1, c2⟩, fun p hp he => f5 p (hl p hp (by omega)) hp he⟩⟩
    by_cases h0 : 0 < togE w n E span s p e
    · exact h.1 p (hl p hp h0) hp
    · omega
end
end Go.Cw
namespace Go.Cw
open Go

theorem togN_lo {w n : Nat} {E : List (List Si)} {a b : List UInt8} {lo : Nat} : ∀ m, m ≤ lo → togN w n E a b lo m = 0 := by
  intro m
  induction m with
  | zero => intro _; rfl
  | succ m ih => intro h; simp only [togN]; rw [ih (by omega), if_neg (by omega)]
theorem togN_succ {w n : Nat} {E : List (List Si)} {a b : List UInt8} {lo m : Nat} (h : lo ≤ m) : togN w n E a b lo (m + 1) = togN w n E a b lo m + tog1 w n E a b m := by simp only [togN]; rw [if_pos h]
def S84 : Spec := fun args h K => ∃ g bm window need E a b, ∃ e span : Nat, args = [.pointer (some ⟨bm, 0, none⟩), .string (str a), .string (str b), .int .i64 e, .int .i64 span] ∧ RT g bm window need E ∧ Heap.le g h ∧ MOkE window need E ∧ a.length ≤ 1000000 ∧ b.length ≤ 1000000 ∧ e < E.length ∧ 1 ≤ span ∧ span ≤ 8 ∧
  ∀ g' h', Step g h g' h' → RT g' bm window need E → K (.int .i64 (togE window need E span a b e : Nat)) h'
theorem F84_ok {N : Num} {Γ : Ctx} [GoodC Γ] (H70 : Sat S70 (Γ 70)) : Sat S84 (SF N Γ F84) := by
  rintro _ h K ⟨g, bm, window, need, E, a, b, e, span, rfl, hT, hg, hm, hal, hbl, he, hs1, hs2, hK⟩
  have hel : E.length ≤ 1000 := (hT.read hg).choose_spec.choose_spec.2.2.1
  refine i_fun rfl ?_
  simp only [F84, env0, List.map, List.length, List.replicate, List.cons_append, List.nil_append, Nat.reduceSub, Nat.reduceAdd]
  have hmax : max 0 (IntKind.i64.wrap (IntKind.i64.wrap ((e : Int) - span) + 1)) = ((e + 1 - span : Nat) : Int) := by rw [w64 (n := (e : Int) - span) (by omega) (by omega), w64 (by omega) (by omega)]; omega
  try simp (disch := first | omega | (simp only [PL]; omega)) only [PS, P1, P2, P3, P4, P5, P6, P7, P8, PA, PB, PC, Nat.reduceAdd, Nat.reduceSub, Nat.reduceMul, Nat.reduceLeDiff, Nat.reduceEqDiff, Nat.succ_ne_self, reduceCtorEq, Int.reduceToNat, Int.cast_ofNat_Int, Int.reduceEq, Int.reduceNe, Int.reduceLT, Int.reduceLE, hmax]
  refine i_loop (fun m : Nat => [some (.pointer (some ⟨bm, 0, none⟩)), some (.string (str a)), some (.string (str b)), some (.int .i64 e), some (.int .i64 span), none, some (.int .i64 (togN window need E a b (e + 1 - span) m : Nat)), some (.int .i64 m), none, none, none, none, none, none])
    (fun m H => e + 1 - span ≤ m ∧ m ≤ e + 1 ∧ ∃ g', Step g h g' H ∧ RT g' bm window need E) (fun m => e + 1 - m) (e + 1 - span) (by rw [togN_lo _ (Nat.le_refl _)]; try simp only [Pe, and_true, true_and, and_self]; rfl) ⟨by omega, by omega, g, Step.refl hg, hT⟩ ?_
  rintro m H ⟨hm1, hm2, g1, hS1, hT1⟩
  have hle := togN_le (w := window) (n := need) (E := E) (a := a) (b := b) (lo := e + 1 - span) m
  try simp (disch := first | omega | (simp only [PL]; omega)) only [PS, P1, P2, P3, P4, P5, P6, P7, P8, PA, PB, PC, Nat.reduceAdd, Nat.reduceSub, Nat.reduceMul, Nat.reduceLeDiff, Nat.reduceEqDiff, Nat.succ_ne_self, reduceCtorEq, Int.reduceToNat, Int.cast_ofNat_Int, Int.reduceEq, Int.reduceNe, Int.reduceLT, Int.reduceLE]
  refine i_cond (fun c => ?_) (fun c => ?_)
  rotate_left
  · have : m = e + 1 := by omega
    subst this
    try simp (disch := first | omega | (simp only [PL]; omega)) only [PS, P1, P2, P3, P4, P5, P6, P7, P8, PA, PB, PC, Nat.reduceAdd, Nat.reduceSub, Nat.reduceMul, Nat.reduceLeDiff, Nat.reduceEqDiff, Nat.succ_ne_self, reduceCtorEq, Int.reduceToNat, Int.cast_ofNat_Int, Int.reduceEq, Int.reduceNe, Int.reduceLT, Int.reduceLE]
    exact hK g1 H hS1 hT1
  have hm3 : m ≤ e := by omega
  try simp (disch := first | omega | (simp only [PL]; omega)) only [PS, P1, P2, P3, P4, P5, P6, P7, P8, PA, PB, PC, Nat.reduceAdd, Nat.reduceSub, Nat.reduceMul, Nat.reduceLeDiff, Nat.reduceEqDiff, Nat.succ_ne_self, reduceCtorEq, Int.reduceToNat, Int.cast_ofNat_Int, Int.reduceEq, Int.reduceNe, Int.reduceLT, Int.reduceLE]
  refine i_call H70 ⟨g1, bm, window, need, E, a, m, rfl, hT1, hS1.le, hm, hal, by omega, fun g2 h2 hS2 hT2 => ?_⟩
  have hw : IntKind.i64.wrap ((m : Int) + 1) = ((m + 1 : Nat) : Int) := by rw [w64 (by omega) (by omega)]; omega
  by_cases hc : 0 ≤ atE window need (E.take (m + 1)) a
  · have hc' : (0 ≤ atE window need (E.take (m + 1)) a) = True := by simpa using hc
    try simp (disch := first | omega | (simp only [PL]; omega)) only [PS, P1, P2, P3, P4, P5, P6, P7, P8, PA, PB, PC, Nat.reduceAdd, Nat.reduceSub, Nat.reduceMul, Nat.reduceLeDiff, Nat.reduceEqDiff, Nat.succ_ne_self, reduceCtorEq, Int.reduceToNat, Int.cast_ofNat_Int, Int.reduceEq, Int.reduceNe, Int.reduceLT, Int.reduceLE, hc']
    refine i_call H70 ⟨g2, bm, window, need, E, b, m, rfl, hT2, hS2.le, hm, hbl, by omega, fun g3 h3 hS3 hT3 => ?_⟩
    try simp (disch := first | omega | (simp only [PL]; omega)) only [PS, P1, P2, P3, P4, P5, P6, P7, P8, PA, PB, PC, Nat.reduceAdd, Nat.reduceSub, Nat.reduceMul, Nat.reduceLeDiff, Nat.reduceEqDiff, Nat.succ_ne_self, reduceCtorEq, Int.reduceToNat, Int.cast_ofNat_Int, Int.reduceEq, Int.reduceNe, Int.reduceLT, Int.reduceLE]
    refine i_cond (fun c2 => ?_) (fun c2 => ?_)
    · have hn : togN window need E a b (e + 1 - span) (m + 1) = togN window need E a b (e + 1 - span) m + 1 := by
        rw [togN_succ hm1, tog1, if_pos ⟨hc, c2.symm⟩]
      have hw2 : IntKind.i64.wrap ((togN window need E a b (e + 1 - span) m : Int) + 1) = ((togN window need E a b (e + 1 - span) (m + 1) : Nat) : Int) := by rw [hn, w64 (by omega) (by omega)]; omega
      try simp (disch := first | omega | (simp only [PL]; omega)) only [PS, P1, P2, P3, P4, P5, P6, P7, P8, PA, PB, PC, Nat.reduceAdd, Nat.reduceSub, Nat.reduceMul, Nat.reduceLeDiff, Nat.reduceEqDiff, Nat.succ_ne_self, reduceCtorEq, Int.reduceToNat, Int.cast_ofNat_Int, Int.reduceEq, Int.reduceNe, Int.reduceLT, Int.reduceLE, hw, hw2]
      exact k_loop (m + 1) (by omega) (by try simp only [Pe, and_true, true_and, and_self]) ⟨by omega, by omega, g3, (hS1.trans hS2).trans hS3, hT3⟩
    · have hn : togN window need E a b (e + 1 - span) (m + 1) = togN window need E a b (e + 1 - span) m := by
        rw [togN_succ hm1, tog1, if_neg (fun h => c2 h.2.symm)]; rfl
      try simp (disch := first | omega | (simp only [PL]; omega)) only [PS, P1, P2, P3, P4, P5, P6, P7, P8, PA, PB, PC, Nat.reduceAdd, Nat.reduceSub, Nat.reduceMul, Nat.reduceLeDiff, Nat.reduceEqDiff, Nat.succ_ne_self, reduceCtorEq, Int.reduceToNat, Int.cast_ofNat_Int, Int.reduceEq, Int.reduceNe, Int.reduceLT, Int.reduceLE, hw]
      exact k_loop (m + 1) (by omega) (by rw [hn]; try simp only [Pe, and_true, true_and, and_self]) ⟨by omega, by omega, g3, (hS1.trans hS2).trans hS3, hT3⟩
  · have hc' : (0 ≤ atE window need (E.take (m + 1)) a) = False := by simpa using hc
    have hn : togN window need E a b (e + 1 - span) (m + 1) = togN window need E a b (e + 1 - span) m := by
      rw [togN_succ hm1, tog1, if_neg (fun h => hc h.1)]; rfl
    try simp (disch := first | omega | (simp only [PL]; omega)) only [PS, P1, P2, P3, P4, P5, P6, P7, P8, PA, PB, PC, Nat.reduceAdd, Nat.reduceSub, Nat.reduceMul, Nat.reduceLeDiff, Nat.reduceEqDiff, Nat.succ_ne_self, reduceCtorEq, Int.reduceToNat, Int.cast_ofNat_Int, Int.reduceEq, Int.reduceNe, Int.reduceLT, Int.reduceLE, hc', hw]
    exact k_loop (m + 1) (by omega) (by rw [hn]; try simp only [Pe, and_true, true_and, and_self]) ⟨by omega, by omega, g2, hS1.trans hS2, hT2⟩

/-- what is read of an Inside -/
def S68 : Spec := fun args h K => ∃ bx gt bt window need E a b, ∃ e span : Nat, args = [.pointer (some ⟨bx, 0, none⟩), .string (str a), .string (str b), .int .i64 e] ∧ TrO gt bt window need E ∧ Heap.le gt h ∧ h.cell ((⟨bx, 0, none⟩ : Addr).add 0) = some (.int .i64 span) ∧ h.cell ((⟨bx, 0, none⟩ : Addr).add 2) = some (.pointer (some ⟨bt, 0, none⟩)) ∧ 1 ≤ need ∧ E.length ≤ 1000 ∧ e < E.length ∧ 1 ≤ span ∧ span ≤ 8 ∧
  K (.int .i64 (togE window need E span a b e : Nat)) h
theorem whr_told {window need : Nat} {E : List (List Si)} {t : List UInt8} {m : Nat} (hn : 1 ≤ need) (hm : m < E.length) : (whr window need E t m = (atF window need E m t, 0) ∧ toldE E t) ∨ (whr window need E t m = (0, 5) ∧ atF window need E m t < 0) := by
  unfold whr
  rw [if_neg (by omega), Int.toNat_natCast]
  split
  · rename_i ht; exact .inl ⟨rfl, ht⟩
  · rename_i ht
    refine .inr ⟨rfl, Int.not_le.1 fun hc => ht ?_⟩
    have := atF_told hn hc
    obtain ⟨l, hl, hs⟩ := this
    exact ⟨l, List.mem_of_mem_take hl, hs⟩
theorem F68_ok {N : Num} {Γ : Ctx} [GoodC Γ] (H30 : Sat (S30 N) (Γ 30)) : Sat S68 (SF N Γ F68) := by
  rintro _ h K ⟨bx, gt, bt, window, need, E, a, b, e, span, rfl, hT, hg, hA0, hA2, hn, hel, he, hs1, hs2, hK⟩
  refine i_fun rfl ?_
  simp only [F68, env0, List.map, List.length, List.replicate, List.cons_append, List.nil_append, Nat.reduceSub, Nat.reduceAdd]
  have hmax : max 0 (IntKind.i64.wrap (IntKind.i64.wrap ((e : Int) - span) + 1)) = ((e + 1 - span : Nat) : Int) := by rw [w64 (n := (e : Int) - span) (by omega) (by omega), w64 (by omega) (by omega)]; omega
  try simp (disch := first | omega | (simp only [PL]; omega)) only [PS, P1, P2, P3, P4, P5, P6, P7, P8, PA, PB, PC, Nat.reduceAdd, Nat.reduceSub, Nat.reduceMul, Nat.reduceLeDiff, Nat.reduceEqDiff, Nat.succ_ne_self, reduceCtorEq, Int.reduceToNat, Int.cast_ofNat_Int, Int.reduceEq, Int.reduceNe, Int.reduceLT, Int.reduceLE, hA0, hmax]
  refine i_loop (fun m : Nat => [some (.pointer (some ⟨bx, 0, none⟩)), some (.string (str a)), some (.string (str b)), some (.int .i64 e), none, some (.int .i64 (togN window need E a b (e + 1 - span) m : Nat)), some (.int .i64 m), none, none, none, none, none, none, none, none])
    (fun m H => e + 1 - span ≤ m ∧ m ≤ e + 1 ∧ H = h) (fun m => e + 1 - m) (e + 1 - span) (by rw [togN_lo _ (Nat.le_refl _)]; try simp only [Pe, and_true, true_and, and_self]; rfl) ⟨by omega, by omega, rfl⟩ ?_
  rintro m H ⟨hm1, hm2, rfl⟩
  have hle := togN_le (w := window) (n := need) (E := E) (a := a) (b := b) (lo := e + 1 - span) m
  try simp (disch := first | omega | (simp only [PL]; omega)) only [PS, P1, P2, P3, P4, P5, P6, P7, P8, PA, PB, PC, Nat.reduceAdd, Nat.reduceSub, Nat.reduceMul, Nat.reduceLeDiff, Nat.reduceEqDiff, Nat.succ_ne_self, reduceCtorEq, Int.reduceToNat, Int.cast_ofNat_Int, Int.reduceEq, Int.reduceNe, Int.reduceLT, Int.reduceLE]
  refine i_cond (fun c => ?_) (fun c => ?_)
  rotate_left
  · have : m = e + 1 := by omega
    subst this
    try simp (disch := first | omega | (simp only [PL]; omega)) only [PS, P1, P2, P3, P4, P5, P6, P7, P8, PA, PB, PC, Nat.reduceAdd, Nat.reduceSub, Nat.reduceMul, Nat.reduceLeDiff, Nat.reduceEqDiff, Nat.succ_ne_self, reduceCtorEq, Int.reduceToNat, Int.cast_ofNat_Int, Int.reduceEq, Int.reduceNe, Int.reduceLT, Int.reduceLE]
    exact hK
  have hm3 : m ≤ e := by omega
  have hw : IntKind.i64.wrap ((m : Int) + 1) = ((m + 1 : Nat) : Int) := by rw [w64 (by omega) (by omega)]; omega
  try simp (disch := first | omega | (simp only [PL]; omega)) only [PS, P1, P2, P3, P4, P5, P6, P7, P8, PA, PB, PC, Nat.reduceAdd, Nat.reduceSub, Nat.reduceMul, Nat.reduceLeDiff, Nat.reduceEqDiff, Nat.succ_ne_self, reduceCtorEq, Int.reduceToNat, Int.cast_ofNat_Int, Int.reduceEq, Int.reduceNe, Int.reduceLT, Int.reduceLE, hA2]
  refine i_call H30 (S30_whr hT hg ?_)
  try simp (disch := first | omega | (simp only [PL]; omega)) only [PS, P1, P2, P3, P4, P5, P6, P7, P8, PA, PB, PC, Nat.reduceAdd, Nat.reduceSub, Nat.reduceMul, Nat.reduceLeDiff, Nat.reduceEqDiff, Nat.succ_ne_self, reduceCtorEq, Int.reduceToNat, Int.cast_ofNat_Int, Int.reduceEq, Int.reduceNe, Int.reduceLT, Int.reduceLE, hA2]
  refine i_call H30 (S30_whr hT hg ?_)
  have hsame : ∀ hc : ¬ (0 ≤ atF window need E m a ∧ atF window need E m a = atF window need E m b), togN window need E a b (e + 1 - span) (m + 1) = togN window need E a b (e + 1 - span) m := fun hc => by
    rw [togN_succ hm1, tog1, if_neg hc]; rfl
  rcases whr_told (window := window) (t := a) hn (show m < E.length by omega) with ⟨ea, _⟩ | ⟨ea, la⟩
  · rcases whr_told (window := window) (t := b) hn (show m < E.length by omega) with ⟨eb, _⟩ | ⟨eb, lb⟩
    · rw [ea, eb]
      try simp (disch := first | omega | (simp only [PL]; omega)) only [PS, P1, P2, P3, P4, P5, P6, P7, P8, PA, PB, PC, Nat.reduceAdd, Nat.reduceSub, Nat.reduceMul, Nat.reduceLeDiff, Nat.reduceEqDiff, Nat.succ_ne_self, reduceCtorEq, Int.reduceToNat, Int.cast_ofNat_Int, Int.reduceEq, Int.reduceNe, Int.reduceLT, Int.reduceLE, errV_zero]
      refine i_cond (fun c2 => ?_) (fun c2 => ?_)
      · have hn : togN window need E a b (e + 1 - span) (m + 1) = togN window need E a b (e + 1 - span) m + 1 := by
          rw [togN_succ hm1, tog1, if_pos c2]
        have hw2 : IntKind.i64.wrap ((togN window need E a b (e + 1 - span) m : Int) + 1) = ((togN window need E a b (e + 1 - span) (m + 1) : Nat) : Int) := by rw [hn, w64 (by omega) (by omega)]; omega
        try simp (disch := first | omega | (simp only [PL]; omega)) only [PS, P1, P2, P3, P4, P5, P6, P7, P8, PA, PB, PC, Nat.reduceAdd, Nat.reduceSub, Nat.reduceMul, Nat.reduceLeDiff, Nat.reduceEqDiff, Nat.succ_ne_self, reduceCtorEq, Int.reduceToNat, Int.cast_ofNat_Int, Int.reduceEq, Int.reduceNe, Int.reduceLT, Int.reduceLE, hw, hw2]
        exact k_loop (m + 1) (by omega) (by try simp only [Pe, and_true, true_and, and_self]) ⟨by omega, by omega, rfl⟩
      · try simp (disch := first | omega | (simp only [PL]; omega)) only [PS, P1, P2, P3, P4, P5, P6, P7, P8, PA, PB, PC, Nat.reduceAdd, Nat.reduceSub, Nat.reduceMul, Nat.reduceLeDiff, Nat.reduceEqDiff, Nat.succ_ne_self, reduceCtorEq, Int.reduceToNat, Int.cast_ofNat_Int, Int.reduceEq, Int.reduceNe, Int.reduceLT, Int.reduceLE, hw]
        exact k_loop (m + 1) (by omega) (by rw [hsame c2]; try simp only [Pe, and_true, true_and, and_self]) ⟨by omega, by omega, rfl⟩
    · rw [ea, eb]
      try simp (disch := first | omega | (simp only [PL]; omega)) only [PS, P1, P2, P3, P4, P5, P6, P7, P8, PA, PB, PC, Nat.reduceAdd, Nat.reduceSub, Nat.reduceMul, Nat.reduceLeDiff, Nat.reduceEqDiff, Nat.succ_ne_self, reduceCtorEq, Int.reduceToNat, Int.cast_ofNat_Int, Int.reduceEq, Int.reduceNe, Int.reduceLT, Int.reduceLE, errV_zero, errV_succ, hw]
      exact k_loop (m + 1) (by omega) (by rw [hsame (by omega)]; try simp only [Pe, and_true, true_and, and_self]) ⟨by omega, by omega, rfl⟩
  · rw [ea]
    generalize whr window need E b m = wb
    obtain ⟨q, f⟩ := wb
    try simp (disch := first | omega | (simp only [PL]; omega)) only [PS, P1, P2, P3, P4, P5, P6, P7, P8, PA, PB, PC, Nat.reduceAdd, Nat.reduceSub, Nat.reduceMul, Nat.reduceLeDiff, Nat.reduceEqDiff, Nat.succ_ne_self, reduceCtorEq, Int.reduceToNat, Int.cast_ofNat_Int, Int.reduceEq, Int.reduceNe, Int.reduceLT, Int.reduceLE, errV_succ, hw]
    exact k_loop (m + 1) (by omega) (by rw [hsame (by omega)]; try simp only [Pe, and_true, true_and, and_self]) ⟨by omega, by omega, rfl⟩

/-- of its sights -/
def cntS (L : List (List Si)) : Nat := (L.map List.length).sum
def S43 : Spec := fun args h K => ∃ v L, args = [v] ∧ SS h v L ∧ light L ∧ K (.int .i64 (cntS L : Nat)) h
theorem cntS_take {L : List (List Si)} {i : Nat} (hi : i < L.length) : cntS (L.take (i + 1)) = cntS (L.take i) + (L.getD i []).length := by
  rw [take_succ_d [] hi]; simp [cntS]
theorem cntS_le {L : List (List Si)} (h : ∀ l ∈ L, l.length ≤ 25) : cntS L ≤ 25 * L.length := by
  induction L with
  | nil => simp [cntS]
  | cons l L ih => have := h l (by simp); have := ih fun x hx => h x (by simp [hx]); simp only [cntS, List.map_cons, List.sum_cons, List.length_cons] at *; omega
theorem F43_ok {N : Num} {Γ : Ctx} [GoodC Γ] : Sat S43 (SF N Γ F43) := by
  rintro _ h K ⟨v, L, rfl, ⟨vs, hv, hvl, hr⟩, hli, hK⟩
  refine i_fun rfl ?_
  simp only [F43, env0, List.map, List.length, List.replicate, List.cons_append, List.nil_append, Nat.reduceSub, Nat.reduceAdd]
  have R := hv.rules1 id (fun _ => rfl) undef
  rw [hvl] at R
  have hl1 := hli.1
  try simp (disch := first | omega | (simp only [PL]; omega)) only [PS, P1, P2, P3, P4, P5, P6, P7, P8, PA, PB, PC, Nat.reduceAdd, Nat.reduceSub, Nat.reduceMul, Nat.reduceLeDiff, Nat.reduceEqDiff, Nat.succ_ne_self, reduceCtorEq, Int.reduceToNat, Int.cast_ofNat_Int, Int.reduceEq, Int.reduceNe, Int.reduceLT, Int.reduceLE]
  refine i_loop (fun i : Nat => [some v, none, some (.int .i64 (cntS (L.take i) : Nat)), some (.int .i64 i), none]) (fun i H => i ≤ L.length ∧ H = h) (fun i => L.length - i) 0 (by try simp only [Pe, and_true, true_and, and_self]; exact ⟨rfl, rfl⟩) ⟨by omega, rfl⟩ ?_
  rintro i H ⟨hi, rfl⟩
  have hcl := cntS_le (L := L.take i) fun l hl => hli.2 l (List.mem_of_mem_take hl)
  rw [List.length_take] at hcl
  try simp (disch := first | omega | (simp only [PL]; omega)) only [PS, P1, P2, P3, P4, P5, P6, P7, P8, PA, PB, PC, Nat.reduceAdd, Nat.reduceSub, Nat.reduceMul, Nat.reduceLeDiff, Nat.reduceEqDiff, Nat.succ_ne_self, reduceCtorEq, Int.reduceToNat, Int.cast_ofNat_Int, Int.reduceEq, Int.reduceNe, Int.reduceLT, Int.reduceLE, R]
  refine i_cond (fun c => ?_) (fun c => ?_)
  · have hi2 : i < L.length := by omega
    have Ri := (hr i hi2).rules 4 Si.enc_len default
    have hli2 := hli.2 _ (getD_mem [] hi2)
    have hw2 : IntKind.i64.wrap ((cntS (L.take i) : Int) + ((L.getD i []).length : Int)) = ((cntS (L.take (i + 1)) : Nat) : Int) := by rw [cntS_take hi2, w64 (by omega) (by omega)]; omega
    try simp (disch := first | omega | (simp only [PL]; omega)) only [PS, P1, P2, P3, P4, P5, P6, P7, P8, PA, PB, PC, Nat.reduceAdd, Nat.reduceSub, Nat.reduceMul, Nat.reduceLeDiff, Nat.reduceEqDiff, Nat.succ_ne_self, reduceCtorEq, Int.reduceToNat, Int.cast_ofNat_Int, Int.reduceEq, Int.reduceNe, Int.reduceLT, Int.reduceLE, R, id, Ri, hw2]
    exact k_loop (i + 1) (by omega) (by try simp only [Pe, and_true, true_and, and_self]) ⟨by omega, rfl⟩
  · have : i = L.length := by omega
    subst this
    rw [List.take_length] at hcl ⊢
    try simp (disch := first | omega | (simp only [PL]; omega)) only [PS, P1, P2, P3, P4, P5, P6, P7, P8, PA, PB, PC, Nat.reduceAdd, Nat.reduceSub, Nat.reduceMul, Nat.reduceLeDiff, Nat.reduceEqDiff, Nat.succ_ne_self, reduceCtorEq, Int.reduceToNat, Int.cast_ofNat_Int, Int.reduceEq, Int.reduceNe, Int.reduceLT, Int.reduceLE]
    exact hK
end Go.Cw
