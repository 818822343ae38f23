/- Part 5 of the proof of WatchSays: a small language for the program's functions, its soundness, and what the functions do. No conditions beyond the theorems' own. -/
import Derived.Test.YthhepmakjimhlaaGreatCw4
import Derived.Shelf.Slices.In.SortNone2
import Derived.Shelf.Sort.Plain
set_option linter.unusedSimpArgs false
set_option linter.unusedVariables false
set_option maxRecDepth 20000
namespace Go.Cw
open Go
theorem Step.side {g h g' H H' : Heap} (a : Step g h g' H) {v : Value} (hv : ∀ b, blkOf v = some b → (h b = none ∨ g b ≠ none) ∧ g' b = none) (hk : ∀ b o, H b = some o → blkOf v ≠ some b → H' b = some o) : Step g h g' H' := by
 refine ⟨fun b o hb => hk b o (a.le b o hb) fun e => ?_, fun b o hb hg => hk b o (a.frame b o hb hg) fun e => ?_, a.fresh⟩
 ·rw [(hv b e).2] at hb; cases hb
 ·rcases (hv b e).1 with h1 | h1
  ·rw [h1] at hb; cases hb
  ·exact h1 hg
theorem SlB.step {α : Type} {enc : α → List Value} {sz : Nat} {g h g' H : Heap} {v : Value} {l : List α} (hs : SlB enc sz h v l) (a : Step g h g' H) (hv : ∀ b, blkOf v = some b → g b = none) : SlB enc sz H v l := by
 refine hs.same fun b hb => ?_
 cases hh : h b with
 | none => exact absurd hh (hs.mem hb)
 | some o => exact a.frame b o hh (hv b hb)
section
variable (w n : Nat) (E : List (List Si)) (span score : Nat) (s : List UInt8)
noncomputable def parL (k : Nat) : List (List UInt8) := (List.range k).map (parE w n E span score s)
end
theorem parL_len {w n : Nat} {E : List (List Si)} {span score : Nat} {s : List UInt8} {k : Nat} : (parL w n E span score s k).length = k := by simp [parL]
theorem parL_succ {w n : Nat} {E : List (List Si)} {span score : Nat} {s : List UInt8} {k : Nat} : parL w n E span score s (k + 1) = parL w n E span score s k ++ [parE w n E span score s k] := by simp [parL, List.range_succ]
theorem parL_get {w n : Nat} {E : List (List Si)} {span score : Nat} {s : List UInt8} {k i : Nat} (h : i < k) : (parL w n E span score s k).getD i default = parE w n E span score s i := by
 simp [parL, List.getD, h]
def S48 : Spec := fun args h K => ∃ g bm window need E s, ∃ k span score : Nat, args = [.pointer (some ⟨bm, 0, none⟩), .string (str s), .int .i64 k, .int .i64 span, .int .i64 score] ∧ RT g bm window need E ∧ Heap.le g h ∧ MOkE window need E ∧ s.length ≤ 1000000 ∧ (∀ t, toldE E t → t.length ≤ 1000000) ∧ k ≤ E.length ∧ 1 ≤ span ∧ span ≤ 8 ∧ 1 ≤ score ∧ score ≤ 8 ∧
 ∀ g' h' v, Step g h g' h' → RT g' bm window need E → SlB encT 1 h' v (parL window need E span score s k) → (∀ b, blkOf v = some b → (h b = none ∨ g b ≠ none) ∧ g' b = none) → K v h'
theorem F48_ok {N : Num} {Γ : Ctx} [GoodC Γ] (H69 : Sat S69 (Γ 69)) : Sat S48 (SF N Γ F48) := by
 rintro _ h K ⟨g, bm, window, need, E, s, k, span, score, rfl, hT, hg, hm, hsl, htl, hk, hs1, hs2, hc1, hc2, hK⟩
 have hel : E.length ≤ 1000 := (hT.read hg).choose_spec.choose_spec.2.2.1
 refine i_fun rfl ?_
 simp only [F48, Ze, Nat.reduceSub, Nat.reduceAdd]
 refine sw0 ?_
 refine i_loop (fun x : Nat × Value × List UInt8 => [some (.pointer (some ⟨bm, 0, none⟩)), some (.string (str s)), some (.int .i64 k), some (.int .i64 span), some (.int .i64 score), none, some x.2.1, some (.string (str x.2.2)), some (.int .i64 (x.1 : Nat)), none, none, none, none, none])
  (fun x H => x.1 ≤ k ∧ x.2.2 = wasE window need E span score s x.1 ∧ SlB encT 1 H x.2.1 (parL window need E span score s x.1) ∧ ∃ g', Step g h g' H ∧ RT g' bm window need E ∧ ∀ b, blkOf x.2.1 = some b → (h b = none ∨ g b ≠ none) ∧ g' b = none) (fun x => k - x.1) (0, .slice none 0 0, []) (by dsimp only; try simp only [Pf]; rfl) ⟨dM, rfl, SlB.nil, g, Step.refl hg, hT, by simp [blkOf]⟩ ?_
 rintro ⟨i, v, was⟩ H ⟨hi, hwas, hS, g1, hS1, hT1, hvb⟩
 dsimp only at hi hwas hS hvb ⊢
 refine sw0 ?_
 refine i_cond (fun c => ?_) (fun c => ?_)
 rotate_left
 ·have : i = k := oM
  subst this
  refine sw0 ?_
  exact hK g1 H v hS1 hT1 hS hvb
 have hi2 : i < k := oM
 have hw : IntKind.i64.wrap ((i : Int) + 1) = ((i + 1 : Nat) : Int) := by rw [w64 oM oM]; omega
 refine sw0 ?_
 refine i_call H69 ⟨g1, bm, window, need, E, s, was, i, span, score, rfl, hT1, hS1.le, hm, hsl, htl, oM, hs1, hs2, hc1, hc2, fun g2 h2 r hS2 hT2 hr => ?_⟩
 have hr2 : parE window need E span score s i = r := par_of (by rw [← hwas]; exact hr)
 have hvH : ∀ b, blkOf v = some b → g1 b = none := fun b hb => (hvb b hb).2
 have hSl2 := hS.step hS2 hvH
 have hS12 := hS1.trans hS2
 have hvb2 : ∀ b, blkOf v = some b → (h b = none ∨ g b ≠ none) ∧ g2 b = none := fun b hb => ⟨(hvb b hb).1, hS2.fresh b (hS.mem hb) (hvb b hb).2⟩
 refine sw0 ?_
 refine i_bslB encT 1 (fun _ => rfl) [r] rfl rfl (by simp [maxLen]) fun x1 b1 h3 hle3 hb1 hx1 hS3 => ?_
 have O2 := hS3.one
 refine sw2 O2.1 O2.2 ?_
 refine i_appB (enc := encT) (sz := 1) (g := h3) (l := parL window need E span score s i) (l' := [r]) (fun _ => rfl) (by simp [encT, one]) (hSl2.le hle3) (Heap.le.refl h3) (SlB.sl (enc := encT) (fun _ => rfl) (hS3.le (fr_le _ _))) (by rw [parL_len]; simp; omega) fun v4 h4 g4 hS4 St4 e1 e2 e3 => ?_
 have hS13 := hS12.trans (Step.more hS12.le hle3)
 have hS14 : Step g h g2 h4 := hS13.side hvb2 e3
 rw [hr2.symm, ← parL_succ] at hS4
 refine sw1 @hw ?_
 refine k_loop (i + 1, v4, r) dM (by dsimp only; try simp only [Pf]) ⟨dM, hr2.symm, hS4.le St4.le, g2, hS14, hT2, fun b hb => ?_⟩
 rcases e2 b hb with h5 | h5
 ·exact hvb2 b h5
 ·have hh : h3 b = none := h5
  refine ⟨?_, ?_⟩
  ·cases e : h b with
   | none => exact .inl rfl
   | some o =>
    cases eg : g b with
    | none => have := hS13.frame b o e eg; rw [hh] at this; cases this
    | some o' => exact .inr (by simp)
  ·cases e : g2 b with
   | none => rfl
   | some o => have := hS13.le b o e; rw [hh] at this; cases this
end Go.Cw
namespace Go.Cw
open Go
def MapS (g : Heap) (m : Nat) (f : List UInt8 → List UInt8) : Prop := ∃ kv bs ck, MapB encKS encKS g m kv bs ck ∧ ∀ s, look kv s = if f s = [] then none else some (f s)
theorem MapS.le {g h : Heap} {m : Nat} {f : List UInt8 → List UInt8} (hm : MapS g m f) (hl : Heap.le g h) : MapS h m f := by
 obtain ⟨kv, bs, ck, h1, h2⟩ := hm; exact ⟨kv, bs, ck, h1.le hl, h2⟩
theorem MapS.lkp {h : Heap} {m : Nat} {f : List UInt8 → List UInt8} (hm : MapS h m f) (s : List UInt8) : o2V h (.lkp .str (.string (str []))) (.v (.map (some m))) (.v (.string (str s))) = some (.v (.string (str (f s)))) := by
 obtain ⟨kv, bs, ck, h1, h2⟩ := hm
 have := (h1.rules .str).1 (.string (str [])) s
 rw [show (Value.string (str s)) = encKS s from rfl, this, h2 s]
 by_cases h : f s = []
 ·rw [if_pos h, h]
 ·rw [if_neg h]; rfl
structure InP (g : Heap) (bx bt window need : Nat) (E : List (List Si)) (span score looked : Nat) (pv : Value) (ms : List Nat) (g0 : Heap) : Prop where
 obj : objAt g ⟨bx, 0, none⟩ [.int .i64 span, .int .i64 score, .pointer (some ⟨bt, 0, none⟩), pv]
 sl : SlB encM 1 g pv ms
 len : ms.length = looked
 le0 : Heap.le g0 g
 maps : ∀ i, i < looked → MapS g0 (ms.getD i 0) fun s => parE window need E span score s i
 nb : g0 bx = none
 ns : ∀ x, blkOf pv = some x → g0 x = none ∧ x ≠ bx
 lk : looked ≤ E.length
def InO (g : Heap) (bx bt window need : Nat) (E : List (List Si)) (span score looked : Nat) : Prop := ∃ pv ms g0, InP g bx bt window need E span score looked pv ms g0
theorem InO.more {g : Heap} {bx bt window need : Nat} {E E' : List (List Si)} {span score looked : Nat} (h : InO g bx bt window need E span score looked) : InO g bx bt window need (E ++ E') span score looked := by
 obtain ⟨pv, ms, g0, h⟩ := h
 refine ⟨pv, ms, g0, { h with maps := fun i hi => ?_, lk := by have := h.lk; simp; omega }⟩
 have := h.maps i hi
 have he : (fun s => parE window need (E ++ E') span score s i) = fun s => parE window need E span score s i := by
  funext s; exact parE_pre i (by have := h.lk; omega)
 rw [he]; exact this
def inBad (span score : Int) : Prop := span < 1 ∨ 8 < span ∨ score < 1 ∨ span < score
def S44 (N : Num) : Spec := fun args h K => ∃ bt window need span score, args = [.pointer (some ⟨bt, 0, none⟩), .int .i64 span, .int .i64 score] ∧
 (inBad span score → K (.tuple #[.pointer none, errV N 1]) h) ∧
 (¬ inBad span score → ∀ bx h', h bx = none → Heap.le h h' → (∀ E, InO (fr h h') bx bt window need E span.toNat score.toNat 0) → K (.tuple #[.pointer (some ⟨bx, 0, none⟩), .nilIface]) h')
theorem F44_ok {N : Num} {Γ : Ctx} [GoodC Γ] : Sat (S44 N) (SF N Γ F44) := by
 rintro _ h K ⟨bt, window, need, span, score, rfl, hK1, hK2⟩
 unfold inBad at hK1 hK2
 refine i_fun rfl ?_
 simp only [F44, Ze, Nat.reduceSub, Nat.reduceAdd]
 refine sw0 ?_
 refine i_cond (fun c => ?_) (fun c => ?_)
 ·refine sw0 ?_
  exact hK1 oM
 ·refine sw0 ?_
  refine i_newO fun bx h1 hle1 hb ho => ?_
  refine sw0 ?_
  refine hK2 oM bx h1 hb hle1 fun E => ⟨.slice none 0 0, [], fun _ => none, ⟨?_, SlB.nil, rfl, fun _ _ h => (by cases h), fun i hi => by omega, rfl, by simp [blkOf], oM⟩⟩
  have e1 : ((span.toNat : Nat) : Int) = span := oM
  have e2 : ((score.toNat : Nat) : Int) = score := oM
  rw [e1, e2]
  exact ho
theorem InP.read {g h : Heap} {bx bt window need : Nat} {E : List (List Si)} {span score looked : Nat} {pv : Value} {ms : List Nat} {g0 : Heap} (hT : InP g bx bt window need E span score looked pv ms g0) (hg : Heap.le g h) :
  h.cell ((⟨bx, 0, none⟩ : Addr).add 0) = some (.int .i64 span) ∧ h.cell ((⟨bx, 0, none⟩ : Addr).add 1) = some (.int .i64 score) ∧ h.cell ((⟨bx, 0, none⟩ : Addr).add 2) = some (.pointer (some ⟨bt, 0, none⟩)) ∧ h.cell ((⟨bx, 0, none⟩ : Addr).add 3) = some pv ∧ Sl encM h pv ms := by
 have ho := hT.obj.le hg
 exact ⟨ho.rules.1 0 (by simp), ho.rules.1 1 (by simp), ho.rules.1 2 (by simp), ho.rules.1 3 (by simp), SlB.sl (enc := encM) (sz := 1) (fun _ => rfl) (hT.sl.le hg)⟩
def S49 (N : Num) : Spec := fun args h K => ∃ g bx bt window need E span score looked s e, args = [.pointer (some ⟨bx, 0, none⟩), .string (str s), .int .i64 e] ∧ InO g bx bt window need E span score looked ∧ Heap.le g h ∧
 ((e < 0 ∨ (looked : Int) ≤ e) → K (.tuple #[.string (str []), errV N 1]) h) ∧ (∀ i : Nat, e = i → i < looked → K (.tuple #[.string (str (parE window need E span score s i)), .nilIface]) h)
theorem F49_ok {N : Num} {Γ : Ctx} [GoodC Γ] : Sat (S49 N) (SF N Γ F49) := by
 rintro _ h K ⟨g, bx, bt, window, need, E, span, score, looked, s, e, rfl, ⟨pv, ms, g0, hT⟩, hg, hK1, hK2⟩
 refine i_fun rfl ?_
 simp only [F49, Ze, Nat.reduceSub, Nat.reduceAdd]
 obtain ⟨_, _, _, A3, hS⟩ := hT.read hg
 have R := hS.rules1 mapV (fun _ => rfl) 0
 rw [hT.len] at R
 refine sw2 @A3 @R ?_
 refine i_cond (fun c => ?_) (fun c => ?_)
 ·refine sw0 ?_
  exact hK1 oM
 ·obtain ⟨i, rfl⟩ : ∃ i : Nat, e = i := ⟨e.toNat, oM⟩
  have hm := ((hT.maps i oM).le (hT.le0.trans hg)).lkp s
  refine sw4 @A3 @R @mapV.eq_1 @hm ?_
  exact hK2 i rfl oM
theorem bless_lt : ∀ (x y : List UInt8), Op.bytesLess x y = decide (x < y) := by
 intro x
 induction x with
 | nil =>
  intro y
  cases y with
  | nil => simp [Op.bytesLess]
  | cons b y => simp [Op.bytesLess]
 | cons a x ih =>
  intro y
  cases y with
  | nil => simp [Op.bytesLess]
  | cons b y =>
   rw [Bool.eq_iff_iff]
   simp [Op.bytesLess, ih, List.cons_lt_cons_iff]
abbrev srt (l : List (List UInt8)) : List (List UInt8) := l.mergeSort fun x y => decide (x ≤ y)
theorem leb_eq (x y : List UInt8) : decide (x ≤ y) = !Op.bytesLess y x := by
 rw [bless_lt, ← decide_not]
 exact decide_eq_decide.2 (by rw [List.not_lt])
theorem srt_ord {l : List (List UInt8)} (h : l.Nodup) : ordT (srt l) := by
 have hp : (srt l).Pairwise fun x y => decide (x ≤ y) = true := by
  refine List.pairwise_mergeSort (fun a b c h1 h2 => ?_) (fun a b => ?_) l
  ·rw [leb_eq, Bool.not_eq_true'] at *
   cases h3 : Op.bytesLess c a with
   | false => rfl
   | true =>
    by_cases e : a = b
    ·subst e; rw [h3] at h2; cases h2
    ·rw [bless_trans h3 (bless_tot h1 (Ne.symm e))] at h2; cases h2
  ·rw [leb_eq, leb_eq]
   cases h3 : Op.bytesLess b a with
   | false => rfl
   | true => rw [bless_asymm h3]; rfl
 have hn : (srt l).Nodup := (List.mergeSort_perm l _).nodup_iff.2 h
 refine List.Pairwise.imp₂ (fun {a b} h1 h2 => ?_) hp hn
 rw [leb_eq, Bool.not_eq_true'] at h1
 exact bless_tot h1 (Ne.symm h2)
theorem srt_mem {l : List (List UInt8)} {t : List UInt8} : t ∈ srt l ↔ t ∈ l := (List.mergeSort_perm l _).mem_iff
theorem srt_len {l : List (List UInt8)} : (srt l).length = l.length := (List.mergeSort_perm l _).length_eq
theorem nodup_le : ∀ {l m : List Nat}, l.Nodup → (∀ x ∈ l, x ∈ m) → l.length ≤ m.length := by
 intro l
 induction l with
 | nil => intro m _ _; simp
 | cons a l ih =>
  intro m hn hs
  have hn' := List.nodup_cons.1 hn
  have ha := hs a (by simp)
  have := ih (m := m.erase a) hn'.2 fun x hx => by
   have : x ≠ a := by rintro rfl; exact hn'.1 hx
   exact (List.mem_erase_of_ne this).2 (hs x (by simp [hx]))
  rw [List.length_erase_of_mem ha] at this
  have := List.length_pos_of_mem ha
  simp; omega
def S67 : Spec := fun args h K => ∃ v l, args = [v] ∧ SlB encT 1 h v l ∧ l.length ≤ 10000000 ∧ ∀ h', SlB encT 1 h' v (srt l) → (∀ b o, h b = some o → blkOf v ≠ some b → h' b = some o) → K (.tuple #[]) h'
theorem objAt.nset {h : Heap} {b m : Nat} {o : Obj} {cs : List Value} (ho : objAt h ⟨b, 0, none⟩ cs) (hm : b ≠ m) : objAt (h.set m o) ⟨b, 0, none⟩ cs := but.obj (b := m) (fun x hx => Heap.set_ne hx) hm ho
theorem objAt.kept {h h' : Heap} {b : Nat} {cs : List Value} (ho : objAt h ⟨b, 0, none⟩ cs) (hk : ∀ o, h b = some o → h' b = some o) : objAt h' ⟨b, 0, none⟩ cs := by
 obtain ⟨h1, c, t, h2, h3⟩ := ho
 exact ⟨h1, c, t, hk _ h2, h3⟩
theorem InO.next {h H3 gx : Heap} {bx bt window need : Nat} {E : List (List Si)} {span score looked : Nat} {pv pv' : Value} {ms : List Nat} {g0 : Heap} {m : Nat}
  (hT : InP gx bx bt window need E span score looked pv ms g0) (hg : Heap.le gx h) (hm : h m = none) (hlE : looked < E.length)
  (hl : ∀ b o, h b = some o → b ≠ bx → blkOf pv ≠ some b → H3 b = some o)
  (hobj : objAt H3 ⟨bx, 0, none⟩ [.int .i64 span, .int .i64 score, .pointer (some ⟨bt, 0, none⟩), pv'])
  (hsl : SlB encM 1 H3 pv' (ms ++ [m])) (hmap : MapS H3 m fun s => parE window need E span score s looked) (hpm : blkOf pv' ≠ some m)
  (hpv : ∀ b, blkOf pv' = some b → blkOf pv = some b ∨ h b = none) : ∃ gx', Step gx h gx' H3 ∧ InO gx' bx bt window need E span score (looked + 1) := by
 have hbx : gx bx ≠ none := by obtain ⟨_, c, t, q, _⟩ := hT.obj; rw [q]; simp
 have hbh : h bx ≠ none := by
  cases e : gx bx with
  | none => exact absurd e hbx
  | some o => rw [hg _ _ e]; simp
 have hmb : m ≠ bx := by rintro rfl; exact hbh hm
 have hpx : ∀ b, blkOf pv' = some b → g0 b = none ∧ b ≠ bx ∧ b ≠ m := by
  intro b hb
  refine ⟨?_, ?_, fun e => hpm (by rw [hb, e])⟩
  ·rcases hpv b hb with h1 | h1
   ·exact (hT.ns b h1).1
   ·exact le_none (hT.le0.trans hg) b h1
  ·rcases hpv b hb with h1 | h1
   ·exact (hT.ns b h1).2
   ·rintro rfl; exact hbh h1
 have hg0m : g0 m = none := le_none (hT.le0.trans hg) m hm
 have hg03 : Heap.le g0 H3 := by
  intro b o hb
  refine hl b o (hg b o (hT.le0 b o hb)) (fun e => ?_) fun e => ?_
  ·subst e; rw [hT.nb] at hb; cases hb
  ·rw [(hT.ns b e).1] at hb; cases hb
 obtain ⟨g1, hg1⟩ : ∃ g1 : Heap, g1 = fun b => if b = m then H3 b else g0 b := ⟨_, rfl⟩
 obtain ⟨g2, hg2⟩ : ∃ g2 : Heap, g2 = fun b => if b = bx ∨ blkOf pv' = some b then H3 b else g1 b := ⟨_, rfl⟩
 have hle1 : Heap.le g1 H3 := by
  intro b o hb; rw [hg1] at hb; dsimp only at hb; split at hb
  ·exact hb
  ·exact hg03 b o hb
 have hle2 : Heap.le g2 H3 := by
  intro b o hb; rw [hg2] at hb; dsimp only at hb; split at hb
  ·exact hb
  ·exact hle1 b o hb
 have hle12 : Heap.le g1 g2 := by
  intro b o hb
  rw [hg2]; dsimp only; split
  ·exact hle1 b o hb
  ·exact hb
 refine ⟨g2, ⟨hle2, fun b o hb hn => ?_, fun b hb hn => ?_⟩, pv', ms ++ [m], g1, ⟨?_, ?_, by rw [List.length_append, hT.len]; rfl, hle12, fun i hi => ?_, ?_, fun x hx => ?_, oM⟩⟩
 ·refine hl b o hb (fun e => ?_) fun e => ?_
  ·subst e; exact hbx hn
  ·exact hT.sl.mem e hn
 ·rw [hg2]; dsimp only
  have h1 : b ≠ bx := by rintro rfl; exact hbx hn
  have h2 : blkOf pv' ≠ some b := by
   intro e
   rcases hpv b e with h3 | h3
   ·exact hT.sl.mem h3 hn
   ·exact hb h3
  have h3 : b ≠ m := by rintro rfl; exact hb hm
  rw [if_neg (by simp [h1, h2]), hg1]
  dsimp only
  rw [if_neg h3]
  exact le_none hT.le0 b hn
 ·exact hobj.kept fun o ho => by rw [hg2]; simp [ho]
 ·exact hsl.same fun b hb => by rw [hg2]; simp [hb]
 ·by_cases h1 : i < looked
  ·have h2 := hT.maps i h1
   have h3 : Heap.le g0 g1 := by
    intro b o hb; rw [hg1]; dsimp only; rw [if_neg fun e => ?_]
    ·exact hb
    ·subst e; rw [hg0m] at hb; cases hb
   have h4 := h2.le h3
   have h5 : (ms ++ [m]).getD i 0 = ms.getD i 0 := by simp [List.getD, List.getElem?_append_left (show i < ms.length by rw [hT.len]; exact h1)]
   rw [h5]; exact h4
  ·have h2 : i = looked := oM
   subst h2
   have h5 : (ms ++ [m]).getD i 0 = m := by rw [← hT.len]; simp [List.getD]
   rw [h5]
   obtain ⟨kv, bs, ck, ⟨es, q1, q2⟩, q3⟩ := hmap
   exact ⟨kv, bs, ck, ⟨es, by rw [hg1]; simpa using q1, q2⟩, q3⟩
 ·rw [hg1]; dsimp only; rw [if_neg (Ne.symm hmb)]; exact hT.nb
 ·obtain ⟨h1, h2, h3⟩ := hpx x hx
  refine ⟨?_, h2⟩
  rw [hg1]; dsimp only; rw [if_neg h3]; exact h1
theorem flatT_get (l : List (List UInt8)) (i : Nat) : (l.flatMap encT)[i]? = (l[i]?).map fun s => .string (str s) := by
 induction l generalizing i with
 | nil => simp
 | cons x l ih =>
  cases i with
  | zero => simp [encT]
  | succ i => simp only [List.flatMap_cons, encT, List.cons_append, List.nil_append, List.getElem?_cons_succ]; exact ih i
theorem Heap.set_self' {h : Heap} {b : Nat} {o : Obj} : (h.set b o) b = some o := by simp [Heap.set]
theorem c67_of {P : Program} {ρ : Go.Shelf.Ren} (Ly : Go.Proofs.Lays.n192 P ρ) : ∀ args h K, S67 args h K → ∀ w, h.sub w → Calls P (ρ.f 192) args.toArray w fun e w' => ∃ v h', e = .returned v ∧ K v h' ∧ WStep h h' w w' := by
 rintro _ h K ⟨v, l, rfl, ⟨a, cap, rfl, h1, h2, h3⟩, hl, hK⟩ w hs
 by_cases hn : l = []
 ·subst hn
  refine (Go.Proofs.Any.sort_Strings_none Ly a cap w).mono ?_
  rintro e w' ⟨rfl, rfl⟩
  refine ⟨_, h, rfl, hK h ⟨a, cap, by simp [srt], by simp [srt], h2, ?_⟩ fun b o hb _ => hb, WStep.refl hs⟩
  rcases h3 with ⟨q1, _, q2⟩ | h3
  ·exact .inl ⟨q1, by simp [srt], q2⟩
  ·exact .inr (by simpa [srt] using h3)
 rcases h3 with ⟨_, e, _⟩ | ⟨b, c, t, rfl, hb, hcs, hc⟩
 ·exact absurd e hn
 have hwb := hs b _ hb
 have hfl : (l.flatMap encT).length = l.length := by rw [flat_len (enc := encT) (sz := 1) (fun _ => rfl)]; omega
 have hH : Go.Sort.Holds Go.Proofs.encStr w b 0 l.toArray := by
  intro j hj
  have hj' : j < l.length := by simpa using hj
  constructor
  ·have := hc j (by rw [hfl]; exact hj')
   rw [flatT_get, List.getElem?_eq_getElem hj'] at this
   simp only [World.cell?, hwb, Nat.zero_add]
   rw [this]
   simp [hj', Go.Proofs.encStr, str]
  ·simp [World.frozen?, hwb]
 refine (Go.Proofs.Any.sort_Strings Ly b 0 cap l w hH (Array.getElem?_eq_some_iff.1 hwb).1 oM).mono ?_
 rintro e w' ⟨rfl, n, os, rfl⟩
 have hlen : (srt l).length = l.length := srt_len
 have hsz : (Go.Sort.putCells Go.Proofs.encStr 0 (srt l).toArray c).size = c.size := by simp [Go.Sort.putCells]
 refine ⟨_, h.set b (.cells (Go.Sort.putCells Go.Proofs.encStr 0 (srt l).toArray c) t (0, 0)), rfl, hK _ ⟨some ⟨b, 0, none⟩, cap, by rw [hlen], by rw [hlen]; exact h1, h2, .inr ⟨b, _, t, rfl, Heap.set_self', by rw [hsz]; exact hcs, fun i hi => ?_⟩⟩ fun x o hx hne => ?_, ⟨fun x o hx => ?_, ?_, rfl, rfl, rfl, fun x hx hn => ⟨?_, ?_⟩⟩⟩
 ·have hi' : i < (srt l).length := by rwa [flat_len (enc := encT) (sz := 1) (fun _ => rfl), Nat.mul_one] at hi
  rw [flatT_get, List.getElem?_eq_getElem hi']
  have hic : i < c.size := oM
  simp only [Go.Sort.putCells, Array.getElem?_mapIdx, Array.getElem?_eq_getElem hic, Option.map_some]
  rw [if_pos ⟨oM, by simpa using hi'⟩]
  have hi2 : i < l.length := oM
  simp [hi', Go.Proofs.encStr, str, List.getElem?_eq_getElem hi']
 ·have : x ≠ b := by rintro rfl; exact hne rfl
  rw [Heap.set_ne this]; exact hx
 ·by_cases e : x = b
  ·subst e
   rw [Heap.set_self'] at hx
   cases hx
   have hlt := (Array.getElem?_eq_some_iff.1 hwb).1
   rw [Go.Sort.heap_grow_old _ _ (by rw [Go.Sort.size_putRow]; exact hlt)]
   simp [Go.Sort.putRow, Go.Sort.mapBlock, Go.Sort.ahead, Array.getElem?_modify, hwb, Go.Sort.onCells]
  ·rw [Heap.set_ne e] at hx
   have hwx := hs x o hx
   have hlt := (Array.getElem?_eq_some_iff.1 hwx).1
   rw [Go.Sort.heap_grow_old _ _ (by rw [Go.Sort.size_putRow]; exact hlt)]
   simp [Go.Sort.putRow, Go.Sort.mapBlock, Go.Sort.ahead, Array.getElem?_modify, hwx, Ne.symm e]
 ·rw [Go.Sort.size_grow, Go.Sort.size_putRow]; simp
 ·have : x ≠ b := by rintro rfl; rw [hn] at hb; cases hb
  rw [Heap.set_ne this]; exact hn
 ·have e : x ≠ b := by rintro rfl; rw [hn] at hb; cases hb
  rw [Go.Sort.heap_grow_old _ _ (by rw [Go.Sort.size_putRow]; exact hx)]
  simp [Go.Sort.putRow, Go.Sort.mapBlock, Go.Sort.ahead, Array.getElem?_modify, Ne.symm e]
def Gath (wkv : List (List UInt8 × Value)) (bs dn : List Nat) (l : List (List UInt8)) : Prop :=
 l.Nodup ∧ l.length ≤ dn.length ∧ ∀ t, t ∈ l ↔ 0 < kindOf t ∧ ∃ (j b : Nat) (u : Value), wkv[j]? = some (t, u) ∧ bs[j]? = some b ∧ b ∈ dn
theorem Gath.skip {wkv : List (List UInt8 × Value)} {bs dn : List Nat} {l : List (List UInt8)} (h : Gath wkv bs dn l) {j b : Nat} {key : List UInt8} {u : Value} (hj : wkv[j]? = some (key, u)) (hb : bs[j]? = some b) (hbs : bs.Nodup) (hk : ¬ 0 < kindOf key) : Gath wkv bs (dn ++ [b]) l := by
 refine ⟨h.1, by have := h.2.1; simp; omega, fun t => (h.2.2 t).trans ⟨fun ⟨h1, j', b', u', h2, h3, h4⟩ => ⟨h1, j', b', u', h2, h3, by simp [h4]⟩, fun ⟨h1, j', b', u', h2, h3, h4⟩ => ⟨h1, j', b', u', h2, h3, ?_⟩⟩⟩
 rw [List.mem_append, List.mem_singleton] at h4
 rcases h4 with h4 | rfl
 ·exact h4
 ·have := nodup_idx hbs hb h3
  subst this
  rw [hj] at h2
  simp only [Option.some.injEq, Prod.mk.injEq] at h2
  rw [h2.1] at hk; exact absurd h1 hk
theorem Gath.take {wkv : List (List UInt8 × Value)} {bs dn : List Nat} {l : List (List UInt8)} (h : Gath wkv bs dn l) {j b : Nat} {key : List UInt8} {u : Value} (hj : wkv[j]? = some (key, u)) (hb : bs[j]? = some b) (hbs : bs.Nodup) (hnd : (wkv.map (·.1)).Nodup) (hn : b ∉ dn) (hk : 0 < kindOf key) : Gath wkv bs (dn ++ [b]) (l ++ [key]) := by
 refine ⟨List.nodup_append.2 ⟨h.1, by simp, fun x hx y hy e => ?_⟩, by have := h.2.1; simp; omega, fun t => ⟨fun ht => ?_, fun ⟨h1, j', b', u', h2, h3, h4⟩ => ?_⟩⟩
 ·simp at hy; subst hy; subst e
  obtain ⟨_, j', b', u', h2, h3, h4⟩ := (h.2.2 x).1 hx
  have h5 : (wkv.map (·.1))[j']? = some x := by rw [List.getElem?_map, h2]; rfl
  have h6 : (wkv.map (·.1))[j]? = some x := by rw [List.getElem?_map, hj]; rfl
  have := nodup_idx hnd h5 h6
  subst this
  rw [hb] at h3; cases h3; exact hn h4
 ·rw [List.mem_append, List.mem_singleton] at ht
  rcases ht with ht | rfl
  ·obtain ⟨h1, j', b', u', h2, h3, h4⟩ := (h.2.2 t).1 ht
   exact ⟨h1, j', b', u', h2, h3, by simp [h4]⟩
  ·exact ⟨hk, j, b, u, hj, hb, by simp⟩
 ·rw [List.mem_append, List.mem_singleton] at h4 ⊢
  rcases h4 with h4 | rfl
  ·exact .inl ((h.2.2 t).2 ⟨h1, j', b', u', h2, h3, h4⟩)
  ·have := nodup_idx hbs hb h3
   subst this
   rw [hj] at h2
   simp only [Option.some.injEq, Prod.mk.injEq] at h2
   exact .inr h2.1.symm
def KidsOk (w n : Nat) (E : List (List Si)) (span score e : Nat) (pre : List (List UInt8)) (kv : List (List UInt8 × List UInt8)) : Prop :=
 ∀ s, look kv s = if s ∈ pre ∧ parE w n E span score s e ≠ [] then some (parE w n E span score s e) else none
def S46 : Spec := fun args h K => ∃ gx gt bx bt window need E span score looked, args = [.pointer (some ⟨bx, 0, none⟩)] ∧ InO gx bx bt window need E span score looked ∧ Heap.le gx h ∧ TrO gt bt window need E ∧ Heap.le gt h ∧ disj gt gx ∧ 1 ≤ need ∧ E.length ≤ 1000 ∧ (∀ l ∈ E, l.length ≤ 2000) ∧ 1 ≤ span ∧ span ≤ 8 ∧ 1 ≤ score ∧ score ≤ 8 ∧
 (looked = E.length → K (.bool false) h) ∧ (looked < E.length → ∀ gx' h', Step gx h gx' h' → InO gx' bx bt window need E span score (looked + 1) → K (.bool true) h')
theorem F46_ok {N : Num} {Γ : Ctx} [GoodC Γ] (H31 : Sat S31 (Γ 31)) (H54 : Sat (S54 N) (Γ 54)) (H66 : Sat S66 (Γ 66)) (H67 : Sat S67 (Γ 67)) (H68 : Sat S68 (Γ 68)) : Sat S46 (SF N Γ F46) := by
 rintro _ h K ⟨gx, gt, bx, bt, window, need, E, span, score, looked, rfl, ⟨pv, ms, g0, hI⟩, hgx, hT, hgt, hd, hn1, hEl, hEr, hs1, hs2, hc1, hc2, hK1, hK2⟩
 refine i_fun rfl ?_
 simp only [F46, Ze, Nat.reduceSub, Nat.reduceAdd]
 have hlk := hI.lk
 obtain ⟨A0, A1, A2, A3, hPS⟩ := hI.read hgx
 have R := hPS.rules1 mapV (fun _ => rfl) 0
 rw [hI.len] at R
 refine sw3 @A3 @R @A2 ?_
 refine i_call H31 ⟨gt, bt, window, need, E, rfl, hT, hgt, ?_⟩
 refine sw0 ?_
 refine i_cond (fun c1 => ?_) (fun c1 => ?_)
 ·refine sw0 ?_
  exact hK1 oM
 have hlo : looked < E.length := oM
 have hK := hK2 hlo
 clear hK1 hK2
 refine sw0 ?_
 refine i_newO fun b3 h1 hle1 hb3 ho3 => ?_
 have ho3' : objAt h1 ⟨b3, 0, none⟩ [.slice none 0 0] := ho3.le (fr_le _ _)
 have hRd : ∀ H, Heap.le h H → H.cell ((⟨bx, 0, none⟩ : Addr).add 0) = some (.int .i64 span) ∧ H.cell ((⟨bx, 0, none⟩ : Addr).add 1) = some (.int .i64 score) ∧ H.cell ((⟨bx, 0, none⟩ : Addr).add 2) = some (.pointer (some ⟨bt, 0, none⟩)) ∧ H.cell ((⟨bx, 0, none⟩ : Addr).add 3) = some pv ∧ Sl encM H pv ms := fun H hl => hI.read (hgx.trans hl)
 have A21 := (hRd h1 hle1).2.2.1
 refine sw1 @A21 ?_
 refine i_call H54 ⟨_, rfl, fun b6 h2 hle2 ho6 => ?_⟩
 obtain ⟨mw, wkv, bs, ck, hmw, hMB, hnd, hkeys⟩ := hT.keys
 have hbsl : bs.length = wkv.length := by obtain ⟨_, _, _, h, _⟩ := hMB; exact h
 have hbsn : bs.Nodup := by obtain ⟨_, _, _, _, h, _⟩ := hMB; exact h
 have hwl : wkv.length = (tagsE E).length := by
  have e := nodup_len hnd (tagsE_nodup E) fun x => (hkeys x).trans (mem_tagsE E x).symm
  rwa [List.length_map] at e
 have hfl := flatT_len E hEr
 have htl2 : (tagsE E).length ≤ 2000000 := by have := tagsOfL_len (flatT E); unfold tagsE; omega
 have hle12 := hle1.trans hle2
 refine sw0 ?_
 refine i_rfn (ek := encKS) (ev := id) (c := ⟨b6, 0, none⟩) (a := ⟨bt, 0, none⟩) (kv := wkv) (bs := bs) (ck := ck) (mp := mw) rfl ((ho6.le (fr_le _ _)).rules.2.1 (by simp)) (hmw h2 (hgt.trans hle12))
  (fun dn G => Heap.le h G ∧ ∃ v l, objAt G ⟨b3, 0, none⟩ [v] ∧ SlB encT 1 G v l ∧ (∀ b, blkOf v = some b → h b = none ∧ b ≠ b3) ∧ Gath wkv bs dn l) ⟨hle12, .slice none 0 0, [], ho3'.le hle2, SlB.nil, by simp [blkOf], ⟨by simp, by simp, by simp⟩⟩ (fun dn G hJ => hMB.le (hgt.trans hJ.1)) ?_ ?_
 rotate_left
 ·rintro dn G j b key val ⟨hG, v, l, hob, hSl, hvb, hga⟩ hdn hds hj hb hnb
  have hdl : dn.length ≤ bs.length := nodup_le hdn hds
  have hll := hga.2.1
  refine sw2 @rf_rules @encKS.eq_1 ?_
  refine i_call H66 ⟨key, rfl, fun G2 hle3 => ?_⟩
  refine sw0 ?_
  refine i_cond (fun c => ?_) (fun c => ?_)
  rotate_left
  ·refine sw1 @rf_rules ?_
   exact ⟨hG.trans hle3, v, l, hob.le hle3, hSl.le hle3, hvb, hga.skip hj hb hbsn c⟩
  have B3 : G2.cell ⟨b3, 0, none⟩ = some v := (hob.le hle3).rules.2.1 (by simp)
  have O1 := hSl.one
  refine sw1 @B3 ?_
  refine i_bslB encT 1 (fun _ => rfl) [key] rfl rfl (by simp [maxLen]) fun x1 b1 G3 hle4 hb1 hx1 hS3 => ?_
  have O2 := hS3.one
  have hle34 := hle3.trans hle4
  refine sw2 O2.1 O2.2 ?_
  refine i_appB (enc := encT) (sz := 1) (g := G3) (l := l) (l' := [key]) (fun _ => rfl) (by simp [encT, one]) (hSl.le hle34) (Heap.le.refl G3) (SlB.sl (enc := encT) (fun _ => rfl) (hS3.le (fr_le _ _))) (by simp; omega) fun v4 h4 g4 hS4 St4 e1 e2 e3 => ?_
  have hob4 : objAt h4 ⟨b3, 0, none⟩ [v] := (hob.le hle34).kept fun o ho => e3 _ _ ho fun e => (hvb _ e).2 rfl
  have hb3G : G3 b3 ≠ none := by obtain ⟨_, cc, tt, q, _⟩ := hob.le hle34; rw [q]; simp
  have hvb4 : ∀ b, blkOf v4 = some b → h b = none ∧ b ≠ b3 := by
   intro b hb
   rcases e2 b hb with h5 | h5
   ·exact hvb b h5
   ·exact ⟨le_none (hG.trans hle34) b h5, fun e => hb3G (e ▸ h5)⟩
  have hG4 : Heap.le h h4 := fun b o hb => e3 b o (hle34 b o (hG b o hb)) fun e => by rw [(hvb b e).1] at hb; cases hb
  have O4 := hS4.one
  refine sw2 O4.1 O4.2 ?_
  refine i_st hob4 0 1 (by rw [O4.2]; rfl) (by rw [O4.2]; simp [O4.1]) oM (by simp) fun o7 hob8 _ => ?_
  have hob9 : objAt (h4.set b3 o7) ⟨b3, 0, none⟩ [v4] := by have := hob8 h4 rfl; simpa [O4.2] using this
  refine sw1 @rf_rules ?_
  have hb3h : h b3 = none := hb3
  refine ⟨but.le (b := b3) hG4 hb3h fun x hx => Heap.set_ne hx, v4, l ++ [key], hob9, (hS4.le St4.le).same fun b hb => Heap.set_ne (hvb4 b hb).2, hvb4, hga.take hj hb hbsn hnd hnb c⟩
 rintro dn G ⟨hG, v, l, hob, hSl, hvb, hga⟩ hdn hds hall
 have hdl : dn.length ≤ bs.length := nodup_le hdn hds
 have hll : l.length ≤ 2000000 := by have := hga.2.1; omega
 have hmem : ∀ t, t ∈ l ↔ 0 < kindOf t ∧ toldE E t := by
  intro t
  rw [hga.2.2 t, ← hkeys t]
  refine and_congr Iff.rfl ⟨fun ⟨j, b, u, q1, q2, q3⟩ => List.mem_map.2 ⟨_, List.mem_of_getElem? q1, rfl⟩, fun ht => ?_⟩
  obtain ⟨⟨k, u⟩, q1, rfl⟩ := List.mem_map.1 ht
  obtain ⟨j, hj, q2⟩ := List.getElem_of_mem q1
  have hj2 : j < bs.length := oM
  exact ⟨j, bs[j], u, by rw [List.getElem?_eq_getElem hj, q2], by rw [List.getElem?_eq_getElem hj2], hall _ (List.getElem_mem hj2)⟩
 have B3 : G.cell ⟨b3, 0, none⟩ = some v := hob.rules.2.1 (by simp)
 refine sw1 @B3 ?_
 refine i_call H67 ⟨v, l, rfl, hSl, oM, fun H1 hS1 hk1 => ?_⟩
 have hordL := srt_ord hga.1
 have hmemL : ∀ t, t ∈ srt l ↔ 0 < kindOf t ∧ toldE E t := fun t => srt_mem.trans (hmem t)
 have hLl : (srt l).length ≤ 2000000 := by rw [srt_len]; exact hll
 generalize srt l = L at *
 have hH1 : Heap.le h H1 := fun b o hb => hk1 b o (hG b o hb) fun e => by rw [(hvb b e).1] at hb; cases hb
 have hob1 : objAt H1 ⟨b3, 0, none⟩ [v] := hob.kept fun o ho => hk1 _ _ ho fun e => (hvb _ e).2 rfl
 clear hk1 hSl hob B3 hga
 refine sw0 ?_
 refine i_mnew (ek := encKS) (ev := encKS) fun m H2 hm0 hle2' hmE => ?_
 have hmE2 := hmE.le (fr_le _ _)
 have hob2 := hob1.le hle2'
 have hS2 := hS1.le hle2'
 have hH2 := hH1.trans hle2'
 have hmh : h m = none := le_none hH1 m hm0
 have hmb3 : b3 ≠ m := by
  rintro rfl
  obtain ⟨_, cc, tt, q, _⟩ := hob1
  rw [q] at hm0; cases hm0
 have hvm : blkOf v ≠ some m := fun e => hS1.mem e hm0
 have B32 : ∀ H, objAt H ⟨b3, 0, none⟩ [v] → H.cell ⟨b3, 0, none⟩ = some v := fun H ho => ho.rules.2.1 (by simp)
 have B3 := B32 _ hob2
 have RL0 := (SlB.sl (enc := encT) (sz := 1) (fun _ => rfl) hS2).rules1 (fun t => .string (str t)) (fun _ => rfl) default
 have hin : ∀ s p, cand s p → 0 < togE window need E span s p looked → p ∈ L := by
  intro s p hc h0
  have := (togE_told hn1 h0).2
  obtain ⟨l, hl, hs⟩ := this
  exact (hmemL p).2 ⟨by have := hc.1; have := hc.2; omega, l, List.mem_of_mem_take hl, hs⟩
 refine sw2 @B3 @RL0 ?_
 refine i_meet_blk (fun env H => Heap.le h H ∧ (∃ kv bs ck, MapB encKS encKS H m kv bs ck ∧ KidsOk window need E span score looked L kv) ∧ env = [some (.pointer (some ⟨bx, 0, none⟩)), none, some (.int .i64 (looked : Nat)), some (.pointer (some ⟨b3, 0, none⟩)), none, some (.map (some m)), none, none, none, none, none, none, none, none, none, none, none, none, none, none, none, none, none, none, none, none, none, none, none, none, none, none, none, none, none, none, none, none, none, none, none, none]) ?_ ?_
 rotate_left
 ·refine i_loop (fun i : Nat => [some (.pointer (some ⟨bx, 0, none⟩)), none, some (.int .i64 (looked : Nat)), some (.pointer (some ⟨b3, 0, none⟩)), none, some (.map (some m)), none, none, none, none, none, none, none, none, none, none, none, none, none, none, none, none, none, some v, some (.int .i64 L.length), some (.int .i64 (i : Nat)), none, none, none, none, none, none, none, none, none, none, none, none, none, none, none, none])
   (fun i H => i ≤ L.length ∧ Heap.le h H ∧ objAt H ⟨b3, 0, none⟩ [v] ∧ SlB encT 1 H v L ∧ ∃ kv bs ck, MapB encKS encKS H m kv bs ck ∧ KidsOk window need E span score looked (L.take i) kv) (fun i => L.length - i) 0 (by try simp only [Pf]; rfl) ⟨oM, hH2, hob2, hS2, [], [], 0, hmE2, fun s => by simp [look_nil]⟩ ?_
  rintro i H ⟨hi, hH, hob, hS, kv, bs', ck', hmp, hkid⟩
  have RL := (SlB.sl (enc := encT) (sz := 1) (fun _ => rfl) hS).rules1 (fun t => .string (str t)) (fun _ => rfl) default
  have hw : IntKind.i64.wrap ((i : Int) + 1) = ((i + 1 : Nat) : Int) := by rw [w64 oM oM]; omega
  refine sw0 ?_
  refine i_cond (fun c => ?_) (fun c => ?_)
  rotate_left
  ·have : i = L.length := oM
   subst this
   rw [List.take_length] at hkid
   refine sw0 ?_
   exact k_meet _ sE ⟨hH, ⟨kv, bs', ck', hmp, hkid⟩, rfl⟩
  have hi2 : i < L.length := oM
  have hcm := (hmemL _).1 (getD_mem default hi2)
  have hnx : L.take (i + 1) = L.take i ++ [L.getD i default] := take_succ_d default hi2
  refine sw1 @RL ?_
  generalize hch : L.getD i default = ch at *
  refine i_meet_cond (fun env H' => H' = H ∧ env = [some (.pointer (some ⟨bx, 0, none⟩)), none, some (.int .i64 (looked : Nat)), some (.pointer (some ⟨b3, 0, none⟩)), none, some (.map (some m)), some (.string (str ch)), some (.string (str (wasE window need E span score ch looked))), none, none, none, none, none, none, none, none, none, none, none, none, none, none, none, some v, some (.int .i64 L.length), some (.int .i64 (i : Nat)), none, none, none, none, none, none, none, none, none, none, none, none, none, none, none, none]) ?_ ?_
  rotate_left
  ·obtain ⟨_, _, _, A3H, hPS⟩ := hRd H hH
   have RP := hPS.rules1 mapV (fun _ => rfl) 0
   rw [hI.len] at RP
   cases looked with
   | zero =>
    refine sw0 ?_
    exact k_meet _ (by try simp only [Pf]; rfl) ⟨rfl, rfl⟩
   | succ e1 =>
    have hm := ((hI.maps e1 oM).le (hI.le0.trans (hgx.trans hH))).lkp ch
    have he1 : IntKind.i64.wrap (((e1 + 1 : Nat) : Int) - 1) = ((e1 : Nat) : Int) := by rw [w64 oM oM]; omega
    have hp1 : ((0 : Int) < ((e1 + 1 : Nat) : Int)) = True := by rw [eq_iff_iff]; simp
    refine sw6 @hp1 @A3H @he1 @RP @mapV.eq_1 @hm ?_
    exact k_meet _ (by try simp only [Pf]; rfl) ⟨rfl, rfl⟩
  rintro env H' ⟨rfl, rfl⟩
  obtain ⟨_, A1H, _, _, _⟩ := hRd H' hH
  have B3H := B32 H' hob
  have hsc : IntKind.i64.wrap ((score : Int) - 1) = (score : Int) - 1 := by rw [w64 oM oM]
  generalize hwas : wasE window need E span score ch looked = was at *
  refine sw4 @A1H @hsc @B3H @RL ?_
  refine i_loop (fun x : Nat × List UInt8 × Int => [some (.pointer (some ⟨bx, 0, none⟩)), none, some (.int .i64 (looked : Nat)), some (.pointer (some ⟨b3, 0, none⟩)), none, some (.map (some m)), some (.string (str ch)), some (.string (str was)), some (.string (str x.2.1)), some (.int .i64 x.2.2), none, none, none, none, none, none, none, none, none, none, none, none, none, some v, some (.int .i64 L.length), some (.int .i64 (i : Nat)), none, none, some v, some (.int .i64 L.length), some (.int .i64 (x.1 : Nat)), none, none, none, none, none, none, none, none, none, none, none])
   (fun x G => x.1 ≤ L.length ∧ Heap.le H' G ∧ FoldP (fun p => togE window need E span ch p looked) score ch was (L.take x.1) x.2.1 x.2.2) (fun x => L.length - x.1) (0, [], (score : Int) - 1) (by try simp only [Pf]; rfl) ⟨dM, Heap.le.refl H', FoldP.nil⟩ ?_
  rintro ⟨k, best, most⟩ G1 ⟨hk, hHG, hF⟩
  dsimp only at hk hF ⊢
  have RLG := (SlB.sl (enc := encT) (sz := 1) (fun _ => rfl) (hS.le hHG)).rules1 (fun t => .string (str t)) (fun _ => rfl) default
  have hwk : IntKind.i64.wrap ((k : Int) + 1) = ((k + 1 : Nat) : Int) := by rw [w64 oM oM]; omega
  refine sw0 ?_
  refine i_cond (fun c2 => ?_) (fun c2 => ?_)
  rotate_left
  ·have : k = L.length := oM
   subst this
   rw [List.take_length] at hF
   have hpar : parE window need E span score ch looked = best := par_of (by rw [hwas]; exact hF.par hc1 (hin ch))
   have hKid : ∀ kv', (∀ s, look kv' s = if s = ch ∧ best ≠ [] then some best else look kv s) → KidsOk window need E span score looked (L.take (i + 1)) kv' := by
    intro kv' h' s
    rw [h' s, hnx, hkid s]
    by_cases hs : s = ch
    ·subst hs
     rw [hpar]
     by_cases hbn : best = []
     ·simp [hbn]
     ·simp [hbn]
    ·simp [hs]
   refine sw0 ?_
   refine i_cond (fun c3 => ?_) (fun c3 => ?_)
   ·refine sw0 ?_
    refine i_mupd (ek := encKS) (ev := encKS) (hmp.le hHG) (Heap.le.refl G1) ch best fun o bs'' ck'' hm' St' _ => ?_
    refine sw1 @hw ?_
    refine k_loop (i + 1) oM sE ⟨oM, but.le (b := m) (hH.trans hHG) hmh fun x hx => Heap.set_ne hx, (hob.le hHG).nset hmb3, (hS.le hHG).same fun b hb => Heap.set_ne fun e => hvm (e ▸ hb), _, _, _, hm', hKid _ fun s => ?_⟩
    rw [look_upd]
    by_cases hs : s = ch
    ·rw [if_pos hs, if_pos ⟨hs, c3⟩]
    ·rw [if_neg hs, if_neg fun h => hs h.1]
   ·refine sw1 @hw ?_
    exact k_loop (i + 1) oM sE ⟨oM, hH.trans hHG, hob.le hHG, hS.le hHG, _, _, _, hmp.le hHG, hKid _ fun s => by rw [if_neg fun h => c3 h.2]⟩
  have hk2 : k < L.length := oM
  have hpm := (hmemL _).1 (getD_mem default hk2)
  have hnk : L.take (k + 1) = L.take k ++ [L.getD k default] := take_succ_d default hk2
  have hordk := ordT_take hordL hk2
  refine sw1 @RLG ?_
  generalize hp : L.getD k default = p at *
  refine i_call H66 ⟨p, rfl, fun G2 hle2' => ?_⟩
  refine sw0 ?_
  refine i_call H66 ⟨ch, rfl, fun G3 hle3' => ?_⟩
  have hHG3 := hHG.trans (hle2'.trans hle3')
  obtain ⟨A03, A13, A23, _, _⟩ := hRd G3 (hH.trans hHG3)
  refine sw0 ?_
  refine i_cond (fun c4 => ?_) (fun c4 => ?_)
  ·refine sw1 @hwk ?_
   refine k_loop (k + 1, best, most) dM (by dsimp only; try simp only [Pf]) ⟨dM, hHG3, ?_⟩
   dsimp only
   rw [hnk]
   exact hF.skip fun hc => by have := hc.2; omega
  have hcd : cand ch p := ⟨hcm.1, oM⟩
  refine sw0 ?_
  refine i_call H68 ⟨bx, gt, bt, window, need, E, ch, p, looked, span, rfl, hT, hgt.trans (hH.trans hHG3), A03, A23, hn1, hEl, hlo, hs1, hs2, ?_⟩
  refine sw1 @A13 ?_
  refine i_cond (fun c5 => ?_) (fun c5 => ?_)
  ·refine sw1 @hwk ?_
   refine k_loop (k + 1, p, (togE window need E span ch p looked : Nat)) dM (by dsimp only; try simp only [Pf]) ⟨dM, hHG3, ?_⟩
   dsimp only
   rw [hnk]
   exact hF.take hcd hordk hc1 (c5.imp id fun ⟨⟨a, b⟩, c⟩ => ⟨a, b, c⟩)
  ·refine sw1 @hwk ?_
   refine k_loop (k + 1, best, most) dM (by dsimp only; try simp only [Pf]) ⟨dM, hHG3, ?_⟩
   dsimp only
   rw [hnk]
   exact hF.leave hcd hordk fun hx => c5 (hx.imp id fun ⟨a, b, c⟩ => ⟨⟨a, b⟩, c⟩)
 rintro env H ⟨hH, ⟨kv, bs', ck', hmp, hkid⟩, rfl⟩
 obtain ⟨_, _, _, A3H, hPSH⟩ := hRd H hH
 have hMapS : ∀ G, (∀ o, H m = some o → G m = some o) → MapS G m fun s => parE window need E span score s looked := by
  intro G hG
  obtain ⟨es, q1, q2⟩ := hmp
  refine ⟨kv, bs', ck', ⟨es, hG _ q1, q2⟩, fun s => ?_⟩
  rw [hkid s]
  by_cases hp : parE window need E span score s looked = []
  ·rw [if_neg fun h => h.2 hp, if_pos hp]
  ·have hsL : s ∈ L := by
    refine (hmemL s).2 (Classical.byContradiction fun hc => hp (par_nil hn1 hc1 ?_))
    by_cases hk : kindOf s ≤ 0
    ·exact .inl hk
    ·refine .inr fun ht => hc ⟨oM, ?_⟩
     obtain ⟨l, hl, hs⟩ := ht
     exact ⟨l, List.mem_of_mem_take hl, hs⟩
   rw [if_neg hp, if_pos ⟨hsL, hp⟩]
 have hHm : H m ≠ none := by obtain ⟨es, q1, q2⟩ := hmp; rw [q1]; simp
 have hpl : ms.length = looked := hI.len
 refine sw1 @A3H ?_
 refine i_bslB encM 1 (fun _ => rfl) [m] rfl rfl (by simp [maxLen]) fun x1 b1 H5 hle5 hb1 hx1 hS5 => ?_
 have O2 := hS5.one
 have OP := hI.sl.one
 refine sw4 O2.1 O2.2 OP.1 OP.2 ?_
 have hHH5 := hH.trans hle5
 refine i_appB (enc := encM) (sz := 1) (g := H5) (l := ms) (l' := [m]) (fun _ => rfl) (by simp [encM, mapV, one]) (hI.sl.le (hgx.trans hHH5)) (Heap.le.refl H5) (SlB.sl (enc := encM) (fun _ => rfl) (hS5.le (fr_le _ _))) (by simp; omega) fun pv' H6 g6 hS6 St6 e1 e2 e3 => ?_
 have O6 := hS6.one
 have hbxp : blkOf pv ≠ some bx := fun e => (hI.ns _ e).2 rfl
 have hob6 : objAt H6 ⟨bx, 0, none⟩ [.int .i64 span, .int .i64 score, .pointer (some ⟨bt, 0, none⟩), pv] := (hI.obj.le (hgx.trans hHH5)).kept fun o ho => e3 _ _ ho hbxp
 refine sw2 O6.1 O6.2 ?_
 refine i_st hob6 3 1 (by rw [O6.2]; rfl) (by rw [O6.2]; simp [O6.1]) oM (by simp) fun o7 hob8 _ => ?_
 have hob9 : objAt (H6.set bx o7) ⟨bx, 0, none⟩ [.int .i64 span, .int .i64 score, .pointer (some ⟨bt, 0, none⟩), pv'] := by have := hob8 H6 rfl; simpa [O6.2] using this
 have hbx5 : H5 bx ≠ none := by obtain ⟨_, cc, tt, q, _⟩ := hI.obj.le (hgx.trans hHH5); rw [q]; simp
 have hm5 : H5 m ≠ none := by
  cases e : H m with
  | none => exact absurd e hHm
  | some o => rw [hle5 _ _ e]; simp
 have hbxh : h bx ≠ none := by obtain ⟨_, cc, tt, q, _⟩ := hI.obj.le hgx; rw [q]; simp
 have hmx : m ≠ bx := by rintro rfl; exact hbxh hmh
 have hpvm : blkOf pv ≠ some m := fun e => (hI.sl.le hgx).mem e hmh
 have hpx : ∀ b, blkOf pv' = some b → b ≠ bx ∧ b ≠ m ∧ (blkOf pv = some b ∨ h b = none) := by
  intro b hb
  rcases e2 b hb with h5 | h5
  ·exact ⟨(hI.ns b h5).2, fun e => hpvm (e ▸ h5), .inl h5⟩
  ·exact ⟨fun e => hbx5 (e ▸ h5), fun e => hm5 (e ▸ h5), .inr (le_none hHH5 b h5)⟩
 obtain ⟨gx', hSt, hIn⟩ := InO.next (H3 := H6.set bx o7) (pv' := pv') hI hgx hmh hlo
  (fun b o hb h1 h2 => by rw [Heap.set_ne h1]; exact e3 b o (hHH5 b o hb) h2) hob9
  ((hS6.le St6.le).same fun b hb => Heap.set_ne (hpx b hb).1)
  (hMapS _ fun o ho => by rw [Heap.set_ne hmx]; exact e3 m o (hle5 m o ho) hpvm)
  (fun e => (hpx m e).2.1 rfl) fun b hb => (hpx b hb).2.2
 refine sw0 ?_
 exact hK gx' _ hSt hIn
def digs (s : List UInt8) : Prop := ∀ b ∈ s, 48 ≤ b.toNat ∧ b.toNat ≤ 57
instance (s : List UInt8) : Decidable (digs s) := by unfold digs; infer_instance
theorem Tg.good {t : Tg} (h : ¬ t.bad) : ∃ a, partsOf t.part = some a ∧ 1 ≤ t.kind ∧ t.kind ≤ 3 ∧ 0 ≤ t.filter ∧ t.filter ≤ 7 ∧ 0 ≤ t.serial ∧ t.serial ≤ 16777215 ∧ 0 ≤ t.company ∧ t.company < (10 ^ a.cd : Nat) ∧ 0 ≤ t.ref ∧ t.ref < (10 ^ a.rd : Nat) := by
 unfold Tg.bad at h
 split at h
 ·exact absurd trivial h
 ·rename_i a ha
  exact ⟨a, ha, oM⟩
structure Rl where
 name : List UInt8
 kind : Int
 first : Int
 thn : Int
 wout : Int
 wthn : Int
 deriving DecidableEq, Inhabited
def Rl.enc (r : Rl) : List Value := [.string (str r.name), .int .i64 r.kind, .int .i64 r.first, .int .i64 r.thn, .int .i64 r.wout, .int .i64 r.wthn]
theorem Rl.enc_len (r : Rl) : r.enc.length = 6 := rfl
def aggR (r : Rl) : Value := .agg #[.string (str r.name), .int .i64 r.kind, .int .i64 r.first, .int .i64 r.thn, .int .i64 r.wout, .int .i64 r.wthn]
def letters (s : List UInt8) : Prop := ∀ b ∈ s, 97 ≤ b.toNat ∧ b.toNat ≤ 122
instance (s : List UInt8) : Decidable (letters s) := by unfold letters; infer_instance
def nameOk (s : List UInt8) : Prop := s ≠ [] ∧ s.length ≤ 12 ∧ letters s
instance (s : List UInt8) : Decidable (nameOk s) := by unfold nameOk; infer_instance
def Rl.bound (r : Rl) : Prop := r.kind < 0 ∨ 3 < r.kind ∨ r.first < 0 ∨ 7 < r.first ∨ r.thn < 0 ∨ 7 < r.thn ∨ r.wout < -1 ∨ 7 < r.wout ∨ r.wthn < 1 ∨ 50 < r.wthn
def Rl.shape (r : Rl) : Prop := r.first = r.thn ∨ r.wout = r.first ∨ r.wout = r.thn
instance (r : Rl) : Decidable r.bound := by unfold Rl.bound; infer_instance
instance (r : Rl) : Decidable r.shape := by unfold Rl.shape; infer_instance
def ruleF (r : Rl) : Nat := if ¬ nameOk r.name then 4 else if r.bound then 1 else if r.shape then 3 else 0
theorem ruleF_zero {r : Rl} : ruleF r = 0 ↔ nameOk r.name ∧ ¬ r.bound ∧ ¬ r.shape := by
 unfold ruleF
 by_cases h1 : nameOk r.name
 ·by_cases h2 : r.bound
  ·simp [h1, h2]
  ·by_cases h3 : r.shape <;> simp [h1, h2, h3]
 ·simp [h1]
def kn (k : Int) : List UInt8 := if k = 1 then [105, 116, 101, 109] else if k = 2 then [99, 97, 115, 101] else if k = 3 then [112, 97, 108, 108, 101, 116] else [97, 110, 121]
def numOk (s : List UInt8) : Prop := s ≠ [] ∧ s.length ≤ 8 ∧ digs s
instance (s : List UInt8) : Decidable (numOk s) := by unfold numOk; infer_instance
def figOk (s : List UInt8) : Prop := s.length ≤ 9 ∧ digs s
instance (s : List UInt8) : Decidable (figOk s) := by unfold figOk; infer_instance
theorem letters_take {s : List UInt8} {i : Nat} (h : letters (s.take i)) (hi : i < s.length) (h1 : 97 ≤ (s.getD i 0).toNat) (h2 : (s.getD i 0).toNat ≤ 122) : letters (s.take (i + 1)) := by
 intro b hb
 rw [take_succ_d 0 hi, List.mem_append, List.mem_singleton] at hb
 rcases hb with hb | rfl
 ·exact h b hb
 ·exact ⟨h1, h2⟩
theorem letters_at {s : List UInt8} (h : letters s) {i : Nat} (hi : i < s.length) : 97 ≤ (s.getD i 0).toNat ∧ (s.getD i 0).toNat ≤ 122 := h _ (getD_mem 0 hi)
def S186 : Spec := fun args h K => ∃ s, args = [.string (str s)] ∧ s.length ≤ 10000000 ∧ K (.bool (decide (nameOk s))) h
theorem F186_ok {N : Num} {Γ : Ctx} [GoodC Γ] : Sat S186 (SF N Γ F186) := by
 rintro _ h K ⟨s, rfl, hsl, hK⟩
 refine i_fun rfl ?_
 simp only [F186, Ze, Nat.reduceSub, Nat.reduceAdd]
 refine sw0 ?_
 refine i_loop (fun i : Nat => [some (.string (str s)), none, none, some (.int .i64 (s.length : Nat)), some (.int .i64 (i : Nat)), none, none]) (fun i H => H = h ∧ i ≤ s.length ∧ letters (s.take i)) (fun i => s.length - i) 0 (by try simp only [Pf]; simp) ⟨rfl, oM, by intro b hb; simp at hb⟩ ?_
 rintro i H ⟨rfl, hi, hd⟩
 have hwi : IntKind.i64.wrap ((i : Int) + 1) = ((i + 1 : Nat) : Int) := by rw [w64 oM oM]; omega
 refine sw0 ?_
 refine i_cond (fun c2 => ?_) (fun c2 => ?_)
 rotate_left
 ·have : i = s.length := oM
  subst this
  rw [List.take_length] at hd
  have e : decide (nameOk s) = decide (s ≠ [] ∧ (s.length : Int) ≤ 12) := decide_eq_decide.2 ⟨fun ⟨h1, h2, _⟩ => ⟨h1, oM⟩, fun ⟨h1, h2⟩ => ⟨h1, oM, hd⟩⟩
  rw [e] at hK
  refine sw0 ?_
  exact hK
 have hi2 : i < s.length := oM
 have hb := (s.getD i 0).toNat_lt
 refine sw0 ?_
 refine i_cond (fun c3 => ?_) (fun c3 => ?_)
 ·have hn : ¬ nameOk s := fun hn => by
   have := letters_at hn.2.2 hi2
   omega
  rw [decide_eq_false hn] at hK
  refine sw0 ?_
  exact hK
 ·refine sw1 @hwi ?_
  exact k_loop (i + 1) oM sE ⟨rfl, oM, letters_take hd hi2 oM oM⟩
def S170 (N : Num) : Spec := fun args h K => ∃ r, args = [aggR r] ∧ r.name.length ≤ 10000000 ∧ K (errV N (ruleF r)) h
theorem F170_ok {N : Num} {Γ : Ctx} [GoodC Γ] (H186 : Sat S186 (Γ 186)) : Sat (S170 N) (SF N Γ F170) := by
 rintro _ h K ⟨r, rfl, hl, hK⟩
 refine i_fun rfl ?_
 simp only [F170, Ze, Nat.reduceSub, Nat.reduceAdd, aggR]
 unfold ruleF at hK
 refine sw0 ?_
 refine i_call H186 ⟨r.name, rfl, hl, ?_⟩
 by_cases hn : nameOk r.name
 rotate_left
 ·rw [decide_eq_false hn]
  rw [if_pos hn, errV_succ] at hK
  refine sw0 ?_
  exact hK
 rw [decide_eq_true hn]
 rw [if_neg (by simpa using hn)] at hK
 refine sw0 ?_
 refine i_cond (fun c => ?_) (fun c => ?_)
 ·have hb : r.bound := by unfold Rl.bound; omega
  rw [if_pos hb, errV_succ] at hK
  refine sw0 ?_
  exact hK
 have hb : ¬ r.bound := by unfold Rl.bound; omega
 rw [if_neg hb] at hK
 refine sw0 ?_
 refine i_cond (fun c => ?_) (fun c => ?_)
 ·have hs : r.shape := by unfold Rl.shape; omega
  rw [if_pos hs, errV_succ] at hK
  refine sw0 ?_
  exact hK
 have hs : ¬ r.shape := by unfold Rl.shape; omega
 rw [if_neg hs, errV_zero] at hK
 refine sw0 ?_
 exact hK
def S168 : Spec := fun args h K => ∃ r, args = [aggR r] ∧ K (.int .i64 (ruleF r : Nat)) h
theorem F168_ok {N : Num} {Γ : Ctx} [GoodC Γ] : Sat S168 (SF N Γ F168) := by
 rintro _ h K ⟨r, rfl, hK⟩
 refine i_fun rfl ?_
 simp only [F168, Ze, Nat.reduceSub, Nat.reduceAdd, aggR]
 unfold ruleF at hK
 refine sw0 ?_
 refine i_cond (fun c => ?_) (fun c => ?_)
 ·have hn : ¬ nameOk r.name := fun hn => by
   have h1 := List.length_pos_iff.2 hn.1
   have h2 := hn.2.1
   omega
  rw [if_pos hn] at hK
  refine sw0 ?_
  exact hK
 refine sw0 ?_
 refine i_loop (fun i : Nat => [none, some (.agg #[.string (str r.name), .int .i64 r.kind, .int .i64 r.first, .int .i64 r.thn, .int .i64 r.wout, .int .i64 r.wthn]), none, some (.int .i64 (i : Nat)), none, none, none, none, none]) (fun i H => H = h ∧ i ≤ r.name.length ∧ letters (r.name.take i)) (fun i => r.name.length - i) 0 (by try simp only [Pf]; simp) ⟨rfl, oM, by intro b hb; simp at hb⟩ ?_
 rintro i H ⟨rfl, hi, hd⟩
 have hwi : IntKind.i64.wrap ((i : Int) + 1) = ((i + 1 : Nat) : Int) := by rw [w64 oM oM]; omega
 refine sw0 ?_
 refine i_cond (fun c2 => ?_) (fun c2 => ?_)
 ·have hi2 : i < r.name.length := oM
  have hb := (r.name.getD i 0).toNat_lt
  refine sw0 ?_
  refine i_cond (fun c3 => ?_) (fun c3 => ?_)
  ·have hn : ¬ nameOk r.name := fun hn => by
    have := letters_at hn.2.2 hi2
    omega
   rw [if_pos hn] at hK
   refine sw0 ?_
   exact hK
  ·refine sw1 @hwi ?_
   exact k_loop (i + 1) oM sE ⟨rfl, oM, letters_take hd hi2 oM oM⟩
 have : i = r.name.length := oM
 subst this
 rw [List.take_length] at hd
 have hn : nameOk r.name := ⟨fun e => c (.inl (by rw [e]; decide)), oM, hd⟩
 rw [if_neg (by simpa using hn)] at hK
 refine sw0 ?_
 refine i_cond (fun c => ?_) (fun c => ?_)
 ·have hb : r.bound := by unfold Rl.bound; omega
  rw [if_pos hb] at hK
  refine sw0 ?_
  exact hK
 have hb : ¬ r.bound := by unfold Rl.bound; omega
 rw [if_neg hb] at hK
 refine sw0 ?_
 refine i_cond (fun c => ?_) (fun c => ?_)
 ·have hs : r.shape := by unfold Rl.shape; omega
  rw [if_pos hs] at hK
  refine sw0 ?_
  exact hK
 have hs : ¬ r.shape := by unfold Rl.shape; omega
 rw [if_neg hs] at hK
 refine sw0 ?_
 exact hK
structure PaS (N : Num) (T g H : Heap) (b6 b5 b3 : Nat) (v : Value) (w : List (List UInt8)) (k : Nat) : Prop where
 hg : Heap.le g H
 hgb : g b5 = none
 c6 : g.cell ⟨b6, 0, none⟩ = some (.func (.func (N.fid 188)) #[] #[.pointer (some ⟨b5, 0, none⟩), .pointer (some ⟨b3, 0, none⟩)])
 c3 : g.cell ⟨b3, 0, none⟩ = some v
 S : Sl encT g v w
 wl : w.length ≤ 10000000
 wx : ∀ x ∈ w, x.length ≤ 1000000
 o : objAt H ⟨b5, 0, none⟩ [.int .i64 (min k w.length : Nat)]
 hT : Heap.le T g
section
variable {N : Num} {Γ : Ctx} {T g H H' : Heap} {b6 b5 b3 : Nat} {v : Value} {w : List (List UInt8)} {k : Nat}
theorem PaS.more (p : PaS N T g H b6 b5 b3 v w k) (hl : Heap.le H H') : PaS N T g H' b6 b5 b3 v w k := { p with hg := p.hg.trans hl, o := p.o.le hl }
theorem PaS.f6 (p : PaS N T g H b6 b5 b3 v w k) : H.cell ⟨b6, 0, none⟩ = some (.func (.func (N.fid 188)) #[] #[.pointer (some ⟨b5, 0, none⟩), .pointer (some ⟨b3, 0, none⟩)]) := cell_hmono p.hg p.c6
end
end Go.Cw
namespace Go.Cw
open Go
def scanR (cm bad : Nat → Bool) (lo : Nat) : Nat → Bool
 | 0 => false
 | n + 1 => if n < lo then false else if cm n then true else if bad n then false else scanR cm bad lo n
theorem scanR_iff (cm bad : Nat → Bool) (lo : Nat) : ∀ n, scanR cm bad lo n = true ↔ ∃ e0, lo ≤ e0 ∧ e0 < n ∧ cm e0 = true ∧ ∀ x, e0 < x → x < n → bad x = false := by
 intro n
 induction n with
 | zero => simp [scanR]
 | succ n ih =>
  unfold scanR
  by_cases h1 : n < lo
  ·rw [if_pos h1]
   constructor
   ·intro h; cases h
   ·rintro ⟨e0, h2, h3, _⟩; omega
  rw [if_neg h1]
  by_cases h2 : cm n = true
  ·rw [if_pos h2]
   exact ⟨fun _ => ⟨n, oM, oM, h2, fun x h3 h4 => by omega⟩, fun _ => rfl⟩
  rw [if_neg h2]
  by_cases h3 : bad n = true
  ·rw [if_pos h3]
   constructor
   ·intro h; cases h
   ·rintro ⟨e0, q1, q2, q3, q4⟩
    by_cases e : e0 = n
    ·subst e; exact absurd q3 h2
    ·have := q4 n oM oM
     rw [this] at h3; cases h3
  rw [if_neg h3, ih]
  constructor
  ·rintro ⟨e0, q1, q2, q3, q4⟩
   refine ⟨e0, q1, oM, q3, fun x h5 h6 => ?_⟩
   by_cases e : x = n
   ·subst e; simpa using h3
   ·exact q4 x h5 oM
  ·rintro ⟨e0, q1, q2, q3, q4⟩
   have : e0 ≠ n := by rintro rfl; exact h2 q3
   exact ⟨e0, q1, oM, q3, fun x h5 h6 => q4 x h5 oM⟩
def badR (window need : Nat) (E : List (List Si)) (r : Rl) (s : List UInt8) (x : Nat) : Bool := decide (0 ≤ r.wout ∧ atE window need (E.take (x + 1)) s = r.wout)
def holdR (window need : Nat) (E : List (List Si)) (r : Rl) (s : List UInt8) (e : Int) : Bool :=
 decide (ruleF r = 0) && decide (kindOf s ≠ 0) && decide (r.kind = 0 ∨ kindOf s = r.kind) && cms window need E s r.thn e && scanR (fun x => cms window need E s r.first (x : Nat)) (badR window need E r s) (e - r.wthn).toNat e.toNat
theorem kindOf_zero (b : List UInt8) : kindOf b = 0 ↔ tagOf b = none := by
 unfold kindOf
 cases h : tagOf b with
 | none => simp
 | some t =>
  have hk : 1 ≤ t.kind := by
   unfold tagOf at h
   split at h
   ·cases h
   ·split at h
    ·cases h
    ·split at h <;> cases h
     rename_i hb
     obtain ⟨_, _, k1, _⟩ := Tg.good hb
     exact k1
  simp; omega
theorem cms_some {window need : Nat} {E : List (List Si)} {s : List UInt8} {p e : Int} (h : cms window need E s p e = true) : 0 ≤ e ∧ e < E.length ∧ toldE E s := by
 unfold cms at h
 split at h
 ·cases h
 ·rename_i hc
  have h0 : (whr window need E s e).2 = 0 := by
   refine Classical.byContradiction fun hn => hc (.inl hn)
  unfold whr at h0
  split at h0
  ·cases h0
  ·split at h0
   ·rename_i h1 h2; exact ⟨oM, oM, h2⟩
   ·cases h0
def S174 (N : Num) : Spec := fun args h K => ∃ gt bt window need E r s e, args = [.pointer (some ⟨bt, 0, none⟩), aggR r, .string (str s), .int .i64 e] ∧ TrO gt bt window need E ∧ Heap.le gt h ∧ E.length ≤ 1000 ∧ r.name.length ≤ 10000000 ∧ (-1000000 ≤ e ∧ e ≤ 1000000) ∧
 ∀ h', Heap.le h h' → K (.bool (holdR window need E r s e)) h'
theorem F174_ok {N : Num} {Γ : Ctx} [GoodC Γ] (H170 : Sat (S170 N) (Γ 170)) (H50 : Sat S50 (Γ 50)) (H81 : Sat (S81 N) (Γ 81)) (H30 : Sat (S30 N) (Γ 30)) : Sat (S174 N) (SF N Γ F174) := by
 rintro _ h K ⟨gt, bt, window, need, E, r, s, e, rfl, hT, hgt, hEl, hnl, he, hK⟩
 refine i_fun rfl ?_
 simp only [F174, Ze, Nat.reduceSub, Nat.reduceAdd, aggR]
 unfold holdR at hK
 refine sw0 ?_
 refine i_call H170 ⟨r, rfl, hnl, ?_⟩
 by_cases hf : ruleF r = 0
 rotate_left
 ·obtain ⟨f, hf'⟩ := Nat.exists_eq_succ_of_ne_zero hf
  rw [decide_eq_false hf] at hK
  simp only [Bool.false_and] at hK
  rw [hf']
  refine sw1 @errV_succ ?_
  exact hK h (Heap.le.refl h)
 rw [decide_eq_true hf] at hK
 rw [hf]
 have hb := (ruleF_zero.1 hf).2.1
 unfold Rl.bound at hb
 refine sw1 @errV_zero ?_
 refine i_call H50 ⟨gt, bt, window, need, E, s, r.thn, e, rfl, hT, hgt, oM, ?_⟩
 cases hc : cms window need E s r.thn e with
 | false =>
  rw [hc] at hK
  simp only [Bool.and_false, Bool.false_and] at hK
  refine sw0 ?_
  exact hK h (Heap.le.refl h)
 | true =>
 obtain ⟨he0, hel, htd⟩ := cms_some hc
 rw [hc] at hK
 refine sw0 ?_
 refine i_call H81 ⟨s, rfl, fun h1 hle1 => ?_⟩
 unfold tgV
 have hkz := kindOf_zero s
 have hks := kindOf_some s
 cases htg : tagOf s with
 | none =>
  have hk0 : ¬ (kindOf s ≠ 0) := by rw [hkz.2 htg]; simp
  rw [decide_eq_false hk0] at hK
  simp only [Bool.and_false, Bool.false_and, Bool.true_and] at hK
  simp only [aggT, Option.getD, Option.isSome, Bool.false_eq_true, if_false]
  refine sw1 @errV_succ ?_
  exact hK h1 hle1
 | some t =>
 have hk0 : kindOf s ≠ 0 := fun h => by rw [hkz.1 h] at htg; cases htg
 rw [htg] at hks
 simp only [Option.getD] at hks
 rw [decide_eq_true hk0] at hK
 simp only [aggT, Option.getD, Option.isSome, if_true, Bool.true_and, Bool.and_true] at hK ⊢
 have hwe : IntKind.i64.wrap (e - 1) = e - 1 := w64 oM oM
 have hww : IntKind.i64.wrap (e - r.wthn) = e - r.wthn := w64 oM oM
 refine sw1 @errV_zero ?_
 refine i_cond (fun c1 => ?_) (fun c1 => ?_)
 ·have hn : ¬ (r.kind = 0 ∨ kindOf s = r.kind) := by rw [hks]; omega
  rw [decide_eq_false hn] at hK
  simp only [Bool.false_and] at hK
  refine sw0 ?_
  exact hK h1 hle1
 have hn : r.kind = 0 ∨ kindOf s = r.kind := by rw [hks]; omega
 rw [decide_eq_true hn] at hK
 simp only [Bool.true_and] at hK
 obtain ⟨en, rfl⟩ : ∃ n : Nat, e = n := ⟨e.toNat, oM⟩
 have hTl := hgt.trans hle1
 obtain ⟨lo, hlo⟩ : ∃ lo, lo = ((en : Int) - r.wthn).toNat := ⟨_, rfl⟩
 have hmx : max (0 : Int) ((en : Int) - r.wthn) = (lo : Nat) := oM
 rw [← hlo, Int.toNat_natCast] at hK
 refine sw1 @hwe ?_
 refine i_loop (fun n : Nat => [some (.pointer (some ⟨bt, 0, none⟩)), none, some (.string (str s)), some (.int .i64 (en : Nat)), some (.agg #[.string (str r.name), .int .i64 r.kind, .int .i64 r.first, .int .i64 r.thn, .int .i64 r.wout, .int .i64 r.wthn]), none, none, none, some (.int .i64 ((n : Nat) - 1)), none, none, none, none, none, none, none, none, none, none, none, none, none, none])
  (fun n H => H = h1 ∧ n ≤ en ∧ scanR (fun x => cms window need E s r.first (x : Nat)) (badR window need E r s) lo en = scanR (fun x => cms window need E s r.first (x : Nat)) (badR window need E r s) lo n) (fun n => n) en sE ⟨rfl, oM, rfl⟩ ?_
 rintro n H ⟨rfl, hnn, hsc⟩
 refine sw2 @hww @hmx ?_
 refine i_cond (fun c2 => ?_) (fun c2 => ?_)
 rotate_left
 ·have : scanR (fun x => cms window need E s r.first (x : Nat)) (badR window need E r s) lo n = false := by
   cases n with
   | zero => rfl
   | succ n => unfold scanR; rw [if_pos oM]
  rw [hsc, this] at hK
  refine sw0 ?_
  exact hK H hle1
 obtain ⟨m, rfl⟩ : ∃ m, n = m + 1 := ⟨n - 1, oM⟩
 have hm1 : ((m + 1 : Nat) : Int) - 1 = (m : Nat) := oM
 have hm2 : IntKind.i64.wrap ((m : Int) - 1) = (m : Nat) - 1 := w64 oM oM
 rw [hm1]
 have hst : scanR (fun x => cms window need E s r.first (x : Nat)) (badR window need E r s) lo (m + 1) = if cms window need E s r.first (m : Nat) then true else if badR window need E r s m then false else scanR (fun x => cms window need E s r.first (x : Nat)) (badR window need E r s) lo m := by
  conv => lhs; unfold scanR
  rw [if_neg oM]
 refine sw0 ?_
 refine i_call H50 ⟨gt, bt, window, need, E, s, r.first, (m : Nat), rfl, hT, hTl, oM, ?_⟩
 cases hcm : cms window need E s r.first (m : Nat) with
 | true =>
  rw [hsc, hst, if_pos hcm] at hK
  refine sw0 ?_
  exact hK H hle1
 | false =>
 rw [hst, if_neg (by rw [hcm]; simp)] at hsc
 refine sw0 ?_
 refine i_call H30 (S30_whr hT hTl ?_)
 have hwr : whr window need E s (m : Nat) = (atE window need (E.take (m + 1)) s, 0) := by
  unfold whr
  rw [if_neg oM, if_pos htd, Int.toNat_natCast]
 rw [hwr]
 refine sw0 ?_
 refine i_cond (fun c3 => ?_) (fun c3 => ?_)
 ·have hbd : badR window need E r s m = true := decide_eq_true c3
  rw [if_pos hbd] at hsc
  rw [hsc] at hK
  refine sw0 ?_
  exact hK H hle1
 ·have hbd : ¬ badR window need E r s m = true := by unfold badR; rw [decide_eq_false c3]; simp
  rw [if_neg hbd] at hsc
  refine sw1 @hm2 ?_
  exact k_loop m oM sE ⟨rfl, oM, hsc⟩
def Ps (H : Heap) (gs : List Heap) : Prop := (∀ g ∈ gs, Heap.le g H) ∧ gs.Pairwise disj
theorem Ps.lt {H : Heap} {gs : List Heap} (h : Ps H gs) (i : Nat) {g : Heap} (hi : gs[i]? = some g) : Heap.le g H := h.1 g (List.mem_of_getElem? hi)
theorem Ps.dj {H : Heap} {gs : List Heap} (h : Ps H gs) (i j : Nat) {f g : Heap} (hi : gs[i]? = some f) (hj : gs[j]? = some g) (hn : i ≠ j) : disj f g := by
 obtain ⟨hi1, rfl⟩ := List.getElem?_eq_some_iff.1 hi
 obtain ⟨hj1, rfl⟩ := List.getElem?_eq_some_iff.1 hj
 rcases Nat.lt_or_gt_of_ne hn with e | e
 ·exact List.pairwise_iff_getElem.1 h.2 i j hi1 hj1 e
 ·exact (List.pairwise_iff_getElem.1 h.2 j i hj1 hi1 e).symm
theorem Ps.up {H H' : Heap} {gs : List Heap} (h : Ps H gs) (hl : Heap.le H H') : Ps H' gs := ⟨fun g hg => (h.1 g hg).trans hl, h.2⟩
theorem Ps.step {H H' : Heap} {gs : List Heap} (h : Ps H gs) (i : Nat) {g g' : Heap} (hi : gs[i]? = some g) (st : Step g H g' H') : Ps H' (gs.set i g') := by
 obtain ⟨hi1, hi2⟩ := List.getElem?_eq_some_iff.1 hi
 have key : ∀ j (hj : j < gs.length), j ≠ i → Heap.le gs[j] H' ∧ disj gs[j] g' := fun j hj hn =>
  st.keep (h.1 _ (List.getElem_mem hj)) (h.dj j i (List.getElem?_eq_getElem hj) hi hn)
 refine ⟨fun x hx => ?_, List.pairwise_iff_getElem.2 fun a b ha hb hab => ?_⟩
 ·obtain ⟨j, hj, rfl⟩ := List.getElem_of_mem hx
  rw [List.length_set] at hj
  rw [List.getElem_set]
  split
  ·exact st.le
  ·rename_i e; exact (key j hj fun e' => e e'.symm).1
 ·rw [List.length_set] at ha hb
  rw [List.getElem_set, List.getElem_set]
  split
  ·rename_i e
   rw [if_neg oM]
   exact (key b hb oM).2.symm
  ·rename_i e
   split
   ·exact (key a ha fun e' => e e'.symm).2
   ·exact List.pairwise_iff_getElem.1 h.2 a b ha hb hab
theorem Ps.new {H H' : Heap} {gs : List Heap} (h : Ps H gs) (hl : Heap.le H H') : Ps H' (gs ++ [fr H H']) := by
 refine ⟨fun g hg => ?_, List.pairwise_append.2 ⟨h.2, by simp, fun a ha b hb => ?_⟩⟩
 ·rcases List.mem_append.1 hg with e | e
  ·exact (h.1 g e).trans hl
  ·rw [List.mem_singleton.1 e]; exact fr_le _ _
 ·rw [List.mem_singleton.1 hb]; exact disj_frE (h.1 a ha)
theorem Ps.add {H f : Heap} {gs : List Heap} (h : Ps H gs) (hf : Heap.le f H) (hd : ∀ g ∈ gs, disj g f) : Ps H (gs ++ [f]) := by
 refine ⟨fun g hg => ?_, List.pairwise_append.2 ⟨h.2, by simp, fun a ha b hb => ?_⟩⟩
 ·rcases List.mem_append.1 hg with e | e
  ·exact h.1 g e
  ·rw [List.mem_singleton.1 e]; exact hf
 ·rw [List.mem_singleton.1 hb]; exact hd a ha
theorem Ps.drop {H : Heap} {gs : List Heap} (n : Nat) (h : Ps H gs) : Ps H (gs.drop n) := ⟨fun g hg => h.1 g (List.mem_of_mem_drop hg), h.2.sublist (List.drop_sublist n gs)⟩
theorem Ps.take {H : Heap} {gs : List Heap} (n : Nat) (h : Ps H gs) : Ps H (gs.take n) := ⟨fun g hg => h.1 g (List.mem_of_mem_take hg), h.2.sublist (List.take_sublist n gs)⟩
def joinL : List Heap → Heap
 | [] => fun _ => none
 | g :: l => join g (joinL l)
theorem joinL_none {b : Nat} : ∀ {gs : List Heap}, (∀ g ∈ gs, g b = none) → joinL gs b = none := by
 intro gs
 induction gs with
 | nil => intro _; rfl
 | cons g l ih => intro h; exact join_none (h g (by simp)) (ih fun x hx => h x (List.mem_cons_of_mem _ hx))
theorem joinL_mem {b : Nat} : ∀ {gs : List Heap}, joinL gs b ≠ none → ∃ g ∈ gs, g b ≠ none := by
 intro gs hb
 exact Classical.byContradiction fun h => hb (joinL_none fun g hg => Classical.byContradiction fun e => h ⟨g, hg, e⟩)
theorem joinL_le {H : Heap} : ∀ {gs : List Heap}, (∀ g ∈ gs, Heap.le g H) → Heap.le (joinL gs) H := by
 intro gs
 induction gs with
 | nil => intro _ b o hb; cases hb
 | cons g l ih => intro h; exact join_le (h g (by simp)) (ih fun x hx => h x (List.mem_cons_of_mem _ hx))
theorem joinL_ge {H : Heap} : ∀ {gs : List Heap}, (∀ g ∈ gs, Heap.le g H) → ∀ g ∈ gs, Heap.le g (joinL gs) := by
 intro gs
 induction gs with
 | nil => intro _ g hg; cases hg
 | cons g l ih =>
  intro h x hx
  rcases List.mem_cons.1 hx with rfl | hx
  ·exact join_l _ _
  ·exact (ih (fun y hy => h y (List.mem_cons_of_mem _ hy)) x hx).trans (join_r (h g (by simp)) (joinL_le fun y hy => h y (List.mem_cons_of_mem _ hy)))
theorem Ps.sub {H : Heap} {gs : List Heap} (h : Ps H gs) : Ps (joinL gs) gs := ⟨joinL_ge h.1, h.2⟩
theorem Ps.rest {g h : Heap} {gs : List Heap} (p : Ps g gs) (hg : Heap.le g h) : Ps h (rest g h :: gs) := by
 refine ⟨fun x hx => ?_, List.pairwise_cons.2 ⟨fun x hx b hb => ?_, p.2⟩⟩
 ·rcases List.mem_cons.1 hx with rfl | hx
  ·intro b o hb; unfold Cw.rest at hb; split at hb; exact hb; cases hb
  ·exact (p.1 x hx).trans hg
 ·refine le_none (p.1 x hx) b ?_
  unfold Cw.rest at hb
  split at hb
  ·assumption
  ·exact absurd rfl hb
theorem Ps.toStep {g h H' : Heap} {gs : List Heap} (hg : Heap.le g h) (p : Ps H' (Cw.rest g h :: gs)) : Step g h (joinL gs) H' := by
 have hd := (List.pairwise_cons.1 p.2).1
 refine ⟨joinL_le fun x hx => p.1 x (List.mem_cons_of_mem _ hx), fun b o h1 h2 => p.1 (Cw.rest g h) (by simp) b o (by unfold Cw.rest; rw [if_pos h2]; exact h1), fun b h1 h2 => joinL_none fun x hx => hd x hx b ?_⟩
 unfold Cw.rest; rw [if_pos h2]; exact h1
def objF (g : Heap) (p n : Nat) (F : Nat → Value) : Prop := objAt g ⟨p, 0, none⟩ ((List.range n).map F)
theorem objF.le {g h : Heap} {p n : Nat} {F : Nat → Value} (ho : objF g p n F) (hl : Heap.le g h) : objF h p n F := objAt.le ho hl
theorem objF.cell {h : Heap} {p n : Nat} {F : Nat → Value} (ho : objF h p n F) {j : Nat} (hj : j < n) : h.cell ((⟨p, 0, none⟩ : Addr).add j) = some (F j) := by
 rw [(objAt.rules ho).1 j (by simpa using hj)]; simp [hj]
def upF (F : Nat → Value) (j : Nat) (v : Value) : Nat → Value := fun i => if i = j then v else F i
theorem upF_eq {F : Nat → Value} {j : Nat} {v : Value} : upF F j v j = v := by simp [upF]
theorem upF_ne {F : Nat → Value} {i j : Nat} {v : Value} (h : i ≠ j) : upF F j v i = F i := by simp [upF, h]
theorem range_upF (F : Nat → Value) (n j : Nat) (v : Value) (hj : j < n) : ((List.range n).map F).take j ++ [v] ++ ((List.range n).map F).drop (j + 1) = (List.range n).map (upF F j v) := by
 apply List.ext_getElem?
 intro i
 simp only [List.append_assoc, List.getElem?_append, List.length_take, List.length_map, List.length_range, List.getElem?_take, List.getElem?_drop, List.getElem?_map, List.length_singleton]
 by_cases e : i < j
 ·rw [if_pos oM, if_pos e, List.getElem?_range oM]; simp [upF_ne (show i ≠ j by omega)]
 ·rw [if_neg oM]
  by_cases e2 : i = j
  ·subst e2; rw [if_pos oM, List.getElem?_range hj]; simp [upF_eq, show i - min i n = 0 by omega]
  ·rw [if_neg oM]
   have : j + 1 + (i - min j n - 1) = i := oM
   rw [this]
   by_cases e3 : i < n
   ·rw [List.getElem?_range e3]; simp [upF_ne e2]
   ·rw [List.getElem?_eq_none (by simp; omega)]; simp
theorem i_stF {N : Num} {Γ : Ctx} {g h : Heap} {p n : Nat} {F : Nat → Value} (ho : objF g p n F) (hg : Heap.le g h) (j : Nat) {x : Value} (hx : x.cells = #[x]) (h1 : one x = true) (hj : j < n) {K : Value → Heap → Prop}
  (hK : ∀ g' h', Step g h g' h' → objF g' p n (upF F j x) → K undef h') : efW N Γ (.st 1) [.pointer (some ((⟨p, 0, none⟩ : Addr).add j)), x] h K := by
 have hb : g p ≠ none := by obtain ⟨_, c, t, q, _⟩ := ho; rw [q]; simp
 have he : g p = h p := by
  cases e : g p with
  | none => exact absurd e hb
  | some o => exact (hg p o e).symm
 refine i_st (objAt.le ho hg) j 1 (by rw [hx]; rfl) (by rw [hx]; simp [h1]) oM (by simp; omega) fun o q1 _ => ?_
 refine hK (g.set p o) _ (Step.set hg hb o) ?_
 have := q1 g he
 rw [hx] at this
 unfold objF
 rw [← range_upF F n j x hj]
 simpa using this
theorem objF.part2 {h : Heap} {p n : Nat} {F : Nat → Value} (ho : objF h p n F) {j : Nat} (hj : j + 2 ≤ n) : objAt h ⟨p, j, none⟩ [F j, F (j + 1)] := by
 obtain ⟨_, c, t, q1, q2, q3⟩ := ho
 refine ⟨rfl, c, t, q1, ?_, fun i hi => ?_⟩
 ·simp at q2; simp; omega
 ·have := q3 (j + i) (by simp at hi; simp; omega)
  simp only [Nat.zero_add] at this
  rw [this]
  simp at hi
  rcases (by omega : i = 0 ∨ i = 1) with rfl | rfl
  ·simp [show j < n by omega]
  ·simp [show j + 1 < n by omega]
theorem objF.back2 {g h h' : Heap} {p n : Nat} {F : Nat → Value} (ho : objF g p n F) (hg : Heap.le g h) {j : Nat} (hj : j + 2 ≤ n) {x y : Value} (hk : keeps ⟨p, j, none⟩ 2 h h') (hn : objAt h' ⟨p, j, none⟩ [x, y]) :
  ∃ g', Step g h g' h' ∧ (∀ b, g' b ≠ none → g b ≠ none) ∧ objF g' p n (upF (upF F j x) (j + 1) y) := by
 obtain ⟨_, c, t, q1, q2, q3⟩ := ho
 obtain ⟨k1, k2⟩ := hk
 have hp := hg p _ q1
 obtain ⟨c', w1, w2, w3⟩ := k2 c t _ hp
 have w1' : h' p = some (.cells c' t (0, 0)) := w1
 obtain ⟨_, c2, t2, r1, r2, r3⟩ := hn
 have r1' : h' p = some (.cells c2 t2 (0, 0)) := r1
 rw [w1'] at r1'
 cases r1'
 simp only [List.length_map, List.length_range] at q2 q3
 have hgp : g p ≠ none := by rw [show g p = _ from q1]; simp
 refine ⟨g.set p (.cells c' t (0, 0)), ⟨fun b o hb => ?_, fun b o h1 h2 => ?_, fun b h1 h2 => ?_⟩, fun b hb => ?_, rfl, c', t, Heap.set_eq, by simp; omega, fun i hi => ?_⟩
 ·by_cases e : b = p
  ·subst e; rw [Heap.set_eq] at hb; cases hb; exact w1'
  ·rw [Heap.set_ne e] at hb; exact k1 b o e (hg b o hb)
 ·refine k1 b o (fun e => ?_) h1
  have e' : b = p := e
  subst e'
  exact hgp h2
 ·have e : b ≠ p := fun e => by subst e; exact hgp h2
  rw [Heap.set_ne e]; exact h2
 ·by_cases e : b = p
  ·subst e; exact hgp
  ·rw [Heap.set_ne e] at hb; exact hb
 ·simp only [List.length_map, List.length_range] at hi
  simp only [Nat.zero_add]
  rw [List.getElem?_map, List.getElem?_range hi]
  by_cases e1 : i = j
  ·subst e1
   have := r3 0 (by simp)
   simp only [Nat.add_zero] at this
   rw [this, Option.map_some, upF_ne oM, upF_eq]; rfl
  ·by_cases e2 : i = j + 1
   ·subst e2
    have := r3 1 (by simp)
    rw [this, Option.map_some, upF_eq]; rfl
   ·have e3 := q3 i hi
    rw [Nat.zero_add, List.getElem?_map, List.getElem?_range hi] at e3
    rw [w3 i (by simp; omega), e3, Option.map_some, Option.map_some, upF_ne e2, upF_ne e1]
structure Al where
 rule : Int
 epoch : Int
 tag : List UInt8
 deriving DecidableEq, Inhabited
def encAl (a : Al) : List Value := [.int .i64 a.rule, .int .i64 a.epoch, .string (str a.tag)]
theorem encAl_len (a : Al) : (encAl a).length = 3 := rfl
def encBv (b : Bool) : Value := .bool b
structure Wa where
 c : Nat → Int
 rs : List Rl
 ln : Nat → List UInt8 × Nat
 wm : Nat → Int
 dr : Nat → Nat
 kn : List (List UInt8)
 now : Nat
 A : List Si
 E : List (List Si)
 al : List Al
def upN {α : Type} (f : Nat → α) (k : Nat) (v : α) : Nat → α := fun i => if i = k then v else f i
theorem upN_eq {α : Type} {f : Nat → α} {k : Nat} {v : α} : upN f k v k = v := by simp [upN]
theorem upN_ne {α : Type} {f : Nat → α} {i k : Nat} {v : α} (h : i ≠ k) : upN f k v i = f i := by simp [upN, h]
def cfgBad (c : Nat → Int) : Prop := c 0 < 1 ∨ 50 < c 0 ∨ c 1 < 0 ∨ 50 < c 1 ∨ c 2 < 1 ∨ 8 < c 2 ∨ c 3 < 1 ∨ c 2 < c 3 ∨ c 4 < 1 ∨ 8 < c 4 ∨ c 5 < 1 ∨ c 4 < c 5
structure Wa.Ok (w : Wa) (fed : Nat) : Prop where
 c0 : 1 ≤ w.c 0 ∧ w.c 0 ≤ 50
 c1 : 0 ≤ w.c 1 ∧ w.c 1 ≤ 50
 c2 : 1 ≤ w.c 2 ∧ w.c 2 ≤ 8
 c3 : 1 ≤ w.c 3 ∧ w.c 3 ≤ w.c 2
 c4 : 1 ≤ w.c 4 ∧ w.c 4 ≤ 8
 c5 : 1 ≤ w.c 5 ∧ w.c 5 ≤ w.c 4
 wh : ∀ k, k < 16 → -1 ≤ w.c (6 + k) ∧ w.c (6 + k) ≤ 7
 rl : w.rs.length ≤ 6
 rf : ∀ r ∈ w.rs, ruleF r = 0
 now : w.now ≤ 1000
 sum : 11 * (w.A.length + w.dr 1 + w.dr 2 + w.dr 3 + w.dr 4) + ((w.ln 0).1.length + (w.ln 0).2) + ((w.ln 1).1.length + (w.ln 1).2) + ((w.ln 2).1.length + (w.ln 2).2) + ((w.ln 3).1.length + (w.ln 3).2) ≤ fed
 d0 : w.dr 0 = 0
 kn : w.kn.length ≤ 12
 knn : w.kn.Nodup
 Ab : ∀ s ∈ w.A, ¬ adBad 1000 s ∧ s.tag ∈ w.kn ∧ kindOf s.tag ≠ 0
 El : w.E.length = clos (w.c 0).toNat (w.c 1).toNat w.now
 Eb : ∀ l ∈ w.E, l.length ≤ 2000 ∧ ∀ s ∈ l, ¬ adBad 1000 s ∧ s.tag ∈ w.kn ∧ kindOf s.tag ≠ 0
 al : w.al.length ≤ 100 * w.E.length
structure WF (F : Nat → Value) (w : Wa) (rv : Value) (pd pt px mk : Nat) (av : Value) : Prop where
 c : ∀ k, k < 22 → F k = .int .i64 (w.c k)
 r : F 22 = rv
 l1 : ∀ k, k < 4 → F (23 + 2 * k) = .string (str (w.ln k).1)
 l2 : ∀ k, k < 4 → F (24 + 2 * k) = .int .i64 ((w.ln k).2 : Nat)
 wm : ∀ k, k < 4 → F (31 + k) = .int .i64 (w.wm k)
 d : F 35 = .pointer (some ⟨pd, 0, none⟩)
 t : F 36 = .pointer (some ⟨pt, 0, none⟩)
 x : F 37 = .pointer (some ⟨px, 0, none⟩)
 k : F 38 = .map (some mk)
 dr : ∀ k, k < 5 → F (39 + k) = .int .i64 (w.dr k : Nat)
 a : F 44 = av
def KnM (kv : List (List UInt8 × Bool)) (kn : List (List UInt8)) : Prop := (∀ t, look kv t = if t ∈ kn then some true else none) ∧ kv.length = kn.length
theorem KnM.nil : KnM [] [] := ⟨fun t => by simp [look_nil], rfl⟩
theorem KnM.add {kv : List (List UInt8 × Bool)} {kn : List (List UInt8)} (h : KnM kv kn) (t : List UInt8) : KnM (upd kv t true) (if t ∈ kn then kn else kn ++ [t]) := by
 refine ⟨fun x => ?_, ?_⟩
 ·rw [look_upd]
  by_cases e : x = t
  ·subst e; rw [if_pos rfl]; split <;> simp_all
  ·rw [if_neg e, h.1 x]
   by_cases e2 : t ∈ kn
   ·simp [e2]
   ·simp [e2, e]
 ·have e : (upd kv t true).length = ((upd kv t true).map (·.1)).length := by simp
  have hm : t ∈ kv.map (·.1) ↔ t ∈ kn := by
   constructor
   ·intro hm
    have := h.1 t
    split at this
    ·assumption
    ·exact absurd hm (look_none this)
   ·intro hm
    have := h.1 t
    rw [if_pos hm] at this
    exact List.mem_map.2 ⟨_, look_mem this, rfl⟩
  rw [e, upd_keys]
  by_cases e2 : t ∈ kn
  ·rw [if_pos (hm.2 e2), if_pos e2]; simpa using h.2
  ·rw [if_neg (fun x => e2 (hm.1 x)), if_neg e2]; simp [h.2]
structure WP (p : Nat) (w : Wa) (F : Nat → Value) (rv av : Value) (pd pt px mk : Nat) (kv : List (List UInt8 × Bool)) (gw gr gd gt gx gk ga : Heap) : Prop where
 ob : objF gw p 45 F
 wf : WF F w rv pd pt px mk av
 rs : Sl Rl.enc gr rv w.rs
 dk : PD gd pd (w.c 0).toNat (w.c 1).toNat w.now w.A
 tr : TrO gt pt (w.c 2).toNat (w.c 3).toNat w.E
 ix : InO gx px pt (w.c 2).toNat (w.c 3).toNat w.E (w.c 4).toNat (w.c 5).toNat w.E.length
 km : ∃ bs ck, MapB encKS encBv gk mk kv bs ck
 kn : KnM kv w.kn
 al : SlB encAl 3 ga av w.al
def WO (g : Heap) (p : Nat) (w : Wa) : Prop := ∃ F rv av pd pt px mk kv gw gr gd gt gx gk ga, Ps g [gw, gr, gd, gt, gx, gk, ga] ∧ WP p w F rv av pd pt px mk kv gw gr gd gt gx gk ga
def Wa.read (w : Wa) (reader : Nat) (r : Rd) : Wa :=
 let pl := w.c (6 + (4 * reader + r.ant.toNat))
 let s : Si := ⟨pl, r.str, w.now - r.age, r.tag⟩
 if tagOf r.tag = none then { w with dr := upN w.dr 1 (w.dr 1 + 1) }
 else if pl < 0 then { w with dr := upN w.dr 2 (w.dr 2 + 1) }
 else if r.tag ∉ w.kn ∧ w.kn.length = 12 then { w with dr := upN w.dr 4 (w.dr 4 + 1) }
 else if adF (w.c 0).toNat (w.c 1).toNat w.now s ≠ 0 then { w with dr := upN w.dr 3 (w.dr 3 + 1) }
 else { w with A := w.A ++ [s], kn := if r.tag ∈ w.kn then w.kn else w.kn ++ [r.tag] }
theorem WF.drop {F : Nat → Value} {w : Wa} {rv : Value} {pd pt px mk : Nat} {av : Value} (h : WF F w rv pd pt px mk av) (k : Nat) (hk : k < 5) (n : Nat) : WF (upF F (39 + k) (.int .i64 (n : Nat))) { w with dr := upN w.dr k n } rv pd pt px mk av where
 c := fun j hj => by rw [upF_ne oM]; exact h.c j hj
 r := by rw [upF_ne oM]; exact h.r
 l1 := fun j hj => by rw [upF_ne oM]; exact h.l1 j hj
 l2 := fun j hj => by rw [upF_ne oM]; exact h.l2 j hj
 wm := fun j hj => by rw [upF_ne oM]; exact h.wm j hj
 d := by rw [upF_ne oM]; exact h.d
 t := by rw [upF_ne oM]; exact h.t
 x := by rw [upF_ne oM]; exact h.x
 k := by rw [upF_ne oM]; exact h.k
 dr := fun j hj => by
  by_cases e : j = k
  ·subst e; rw [upF_eq]; simp only [upN_eq]
  ·rw [upF_ne oM]; simp only [upN_ne e]; exact h.dr j hj
 a := by rw [upF_ne oM]; exact h.a
theorem WF.warm {F : Nat → Value} {w : Wa} {rv : Value} {pd pt px mk : Nat} {av : Value} (h : WF F w rv pd pt px mk av) (k : Nat) (hk : k < 4) (n : Int) : WF (upF F (31 + k) (.int .i64 n)) { w with wm := upN w.wm k n } rv pd pt px mk av where
 c := fun j hj => by rw [upF_ne oM]; exact h.c j hj
 r := by rw [upF_ne oM]; exact h.r
 l1 := fun j hj => by rw [upF_ne oM]; exact h.l1 j hj
 l2 := fun j hj => by rw [upF_ne oM]; exact h.l2 j hj
 wm := fun j hj => by
  by_cases e : j = k
  ·subst e; rw [upF_eq]; simp only [upN_eq]
  ·rw [upF_ne oM]; simp only [upN_ne e]; exact h.wm j hj
 d := by rw [upF_ne oM]; exact h.d
 t := by rw [upF_ne oM]; exact h.t
 x := by rw [upF_ne oM]; exact h.x
 k := by rw [upF_ne oM]; exact h.k
 dr := fun j hj => by rw [upF_ne oM]; exact h.dr j hj
 a := by rw [upF_ne oM]; exact h.a
theorem WF.line {F : Nat → Value} {w : Wa} {rv : Value} {pd pt px mk : Nat} {av : Value} (h : WF F w rv pd pt px mk av) (k : Nat) (hk : k < 4) (a : List UInt8) (n : Nat) : WF (upF (upF F (23 + 2 * k) (.string (str a))) (23 + 2 * k + 1) (.int .i64 (n : Nat))) { w with ln := upN w.ln k (a, n) } rv pd pt px mk av where
 c := fun j hj => by rw [upF_ne oM, upF_ne oM]; exact h.c j hj
 r := by rw [upF_ne oM, upF_ne oM]; exact h.r
 l1 := fun j hj => by
  rw [upF_ne oM]
  by_cases e : j = k
  ·subst e; rw [upF_eq]; simp only [upN_eq]
  ·rw [upF_ne oM]; simp only [upN_ne e]; exact h.l1 j hj
 l2 := fun j hj => by
  by_cases e : j = k
  ·subst e; rw [show 24 + 2 * j = 23 + 2 * j + 1 by omega, upF_eq]; simp only [upN_eq]
  ·rw [upF_ne oM, upF_ne oM]; simp only [upN_ne e]; exact h.l2 j hj
 wm := fun j hj => by rw [upF_ne oM, upF_ne oM]; exact h.wm j hj
 d := by rw [upF_ne oM, upF_ne oM]; exact h.d
 t := by rw [upF_ne oM, upF_ne oM]; exact h.t
 x := by rw [upF_ne oM, upF_ne oM]; exact h.x
 k := by rw [upF_ne oM, upF_ne oM]; exact h.k
 dr := fun j hj => by rw [upF_ne oM, upF_ne oM]; exact h.dr j hj
 a := by rw [upF_ne oM, upF_ne oM]; exact h.a
theorem WF.al {F : Nat → Value} {w : Wa} {rv : Value} {pd pt px mk : Nat} {av : Value} (h : WF F w rv pd pt px mk av) (l : List Al) (v : Value) : WF (upF F 44 v) { w with al := l } rv pd pt px mk v where
 c := fun j hj => by rw [upF_ne oM]; exact h.c j hj
 r := by rw [upF_ne oM]; exact h.r
 l1 := fun j hj => by rw [upF_ne oM]; exact h.l1 j hj
 l2 := fun j hj => by rw [upF_ne oM]; exact h.l2 j hj
 wm := fun j hj => by rw [upF_ne oM]; exact h.wm j hj
 d := by rw [upF_ne oM]; exact h.d
 t := by rw [upF_ne oM]; exact h.t
 x := by rw [upF_ne oM]; exact h.x
 k := by rw [upF_ne oM]; exact h.k
 dr := fun j hj => by rw [upF_ne oM]; exact h.dr j hj
 a := upF_eq
theorem WF.same {F : Nat → Value} {w w' : Wa} {rv : Value} {pd pt px mk : Nat} {av : Value} (h : WF F w rv pd pt px mk av) (e1 : w'.c = w.c) (e2 : w'.ln = w.ln) (e3 : w'.wm = w.wm) (e4 : w'.dr = w.dr) : WF F w' rv pd pt px mk av where
 c := fun j hj => by rw [e1]; exact h.c j hj
 r := h.r
 l1 := fun j hj => by rw [e2]; exact h.l1 j hj
 l2 := fun j hj => by rw [e2]; exact h.l2 j hj
 wm := fun j hj => by rw [e3]; exact h.wm j hj
 d := h.d
 t := h.t
 x := h.x
 k := h.k
 dr := fun j hj => by rw [e4]; exact h.dr j hj
 a := h.a
theorem WP.drop {p : Nat} {w : Wa} {F : Nat → Value} {rv av : Value} {pd pt px mk : Nat} {kv : List (List UInt8 × Bool)} {gw gr gd gt gx gk ga gw' : Heap} (h : WP p w F rv av pd pt px mk kv gw gr gd gt gx gk ga) (k : Nat) (hk : k < 5) (n : Nat) (ho : objF gw' p 45 (upF F (39 + k) (.int .i64 (n : Nat)))) :
  WP p { w with dr := upN w.dr k n } (upF F (39 + k) (.int .i64 (n : Nat))) rv av pd pt px mk kv gw' gr gd gt gx gk ga :=
 { h with ob := ho, wf := h.wf.drop k hk n }
theorem WO.of {g h H' : Heap} {p : Nat} {w : Wa} {F : Nat → Value} {rv av : Value} {pd pt px mk : Nat} {kv : List (List UInt8 × Bool)} {gw gr gd gt gx gk ga : Heap} (hg : Heap.le g h) (ps : Ps H' [rest g h, gw, gr, gd, gt, gx, gk, ga]) (wp : WP p w F rv av pd pt px mk kv gw gr gd gt gx gk ga) :
  ∃ g', Step g h g' H' ∧ WO g' p w := ⟨_, ps.toStep hg, F, rv, av, pd, pt, px, mk, kv, gw, gr, gd, gt, gx, gk, ga, (ps.drop 1).sub, wp⟩
def aggD (r : Rd) : Value := .agg #[.int .i64 r.ant, .int .i64 r.str, .int .i64 r.age, .string (str r.tag)]
def S278 : Spec := fun args h K => ∃ g p w fed rd, ∃ reader : Nat, args = [.pointer (some ⟨p, 0, none⟩), .int .i64 (reader : Nat), aggD rd] ∧ WO g p w ∧ Heap.le g h ∧ w.Ok fed ∧ fed ≤ 20000 ∧ reader < 4 ∧ ¬ rd.bad ∧
 ∀ g' h', Step g h g' h' → WO g' p (w.read reader rd) → K (.tuple #[]) h'
theorem add_add {p o : Nat} (i j : Nat) : ((⟨p, o, none⟩ : Addr).add i).add j = (⟨p, o, none⟩ : Addr).add (i + j) := by
 rw [addr_add' ⟨p, o, none⟩ rfl (i), addr_add' ⟨p, o, none⟩ rfl, addr_add' _ rfl, Nat.add_assoc]
section
variable {p : Nat} {w : Wa} {F : Nat → Value} {rv av : Value} {pd pt px mk : Nat} {kv : List (List UInt8 × Bool)} {gw gr gd gt gx gk ga : Heap}
theorem WP.c39 (h : WP p w F rv av pd pt px mk kv gw gr gd gt gx gk ga) {H : Heap} (hl : Heap.le gw H) {k : Nat} (hk : k < 5) : H.cell (((⟨p, 0, none⟩ : Addr).add 39).add k) = some (.int .i64 (w.dr k : Nat)) := by
 have := (h.ob.le hl).cell (j := 39 + k) oM
 rw [h.wf.dr k hk] at this
 rw [← this, add_add]
theorem WP.cWh (h : WP p w F rv av pd pt px mk kv gw gr gd gt gx gk ga) {H : Heap} (hl : Heap.le gw H) {r a : Nat} (hr : r < 4) (ha : a < 4) : H.cell (((((⟨p, 0, none⟩ : Addr).add 0).add 6).add (r * 4)).add a) = some (.int .i64 (w.c (6 + (4 * r + a)))) := by
 have := (h.ob.le hl).cell (j := 6 + (4 * r + a)) oM
 rw [h.wf.c _ oM] at this
 rw [← this, show (((⟨p, 0, none⟩ : Addr).add 0).add 6) = (⟨p, 0, none⟩ : Addr).add 6 from rfl, add_add, add_add, show 6 + r * 4 + a = 6 + (4 * r + a) by omega]
theorem WP.c35 (h : WP p w F rv av pd pt px mk kv gw gr gd gt gx gk ga) {H : Heap} (hl : Heap.le gw H) : H.cell ((⟨p, 0, none⟩ : Addr).add 35) = some (.pointer (some ⟨pd, 0, none⟩)) := by
 rw [(h.ob.le hl).cell oM, h.wf.d]
theorem WP.c36 (h : WP p w F rv av pd pt px mk kv gw gr gd gt gx gk ga) {H : Heap} (hl : Heap.le gw H) : H.cell ((⟨p, 0, none⟩ : Addr).add 36) = some (.pointer (some ⟨pt, 0, none⟩)) := by
 rw [(h.ob.le hl).cell oM, h.wf.t]
theorem WP.c37 (h : WP p w F rv av pd pt px mk kv gw gr gd gt gx gk ga) {H : Heap} (hl : Heap.le gw H) : H.cell ((⟨p, 0, none⟩ : Addr).add 37) = some (.pointer (some ⟨px, 0, none⟩)) := by
 rw [(h.ob.le hl).cell oM, h.wf.x]
theorem WP.c38 (h : WP p w F rv av pd pt px mk kv gw gr gd gt gx gk ga) {H : Heap} (hl : Heap.le gw H) : H.cell ((⟨p, 0, none⟩ : Addr).add 38) = some (.map (some mk)) := by
 rw [(h.ob.le hl).cell oM, h.wf.k]
theorem WP.c44 (h : WP p w F rv av pd pt px mk kv gw gr gd gt gx gk ga) {H : Heap} (hl : Heap.le gw H) : H.cell ((⟨p, 0, none⟩ : Addr).add 44) = some av := by
 rw [(h.ob.le hl).cell oM, h.wf.a]
theorem WP.c22 (h : WP p w F rv av pd pt px mk kv gw gr gd gt gx gk ga) {H : Heap} (hl : Heap.le gw H) : H.cell ((⟨p, 0, none⟩ : Addr).add 22) = some rv := by
 rw [(h.ob.le hl).cell oM, h.wf.r]
theorem KnM.lkp {H : Heap} {m : Nat} {kv : List (List UInt8 × Bool)} {kn : List (List UInt8)} {bs : List Nat} {ck : Nat} (hk : KnM kv kn) (hm : MapB encKS encBv H m kv bs ck) (t : List UInt8) : o2V H (.lkp .str (.bool false)) (.v (.map (some m))) (.v (.string (str t))) = some (.v (.bool (decide (t ∈ kn)))) := by
 have := (hm.rules .str).1 (.bool false) t
 rw [hk.1 t] at this
 rw [show (Value.string (str t)) = encKS t from rfl, this]
 by_cases e : t ∈ kn <;> simp [e, encBv]
theorem KnM.mlen {H : Heap} {m : Nat} {kv : List (List UInt8 × Bool)} {kn : List (List UInt8)} {bs : List Nat} {ck : Nat} (hk : KnM kv kn) (hm : MapB encKS encBv H m kv bs ck) (N : Num) (env : Env) : o1V N env H .mlen (.v (.map (some m))) = some (.v (.int .i64 kn.length)) := by
 rw [(hm.rules .str).2.2, hk.2]
theorem i_drop {N : Num} {Γ : Ctx} {g h H : Heap} (hg : Heap.le g h) (hps : Ps H [rest g h, gw, gr, gd, gt, gx, gk, ga]) (hw : WP p w F rv av pd pt px mk kv gw gr gd gt gx gk ga) (k : Nat) (hk : k < 5) (n : Nat) {K : Value → Heap → Prop}
  (hK : ∀ g' h', Step g h g' h' → WO g' p { w with dr := upN w.dr k n } → K undef h') : efW N Γ (.st 1) [.pointer (some (((⟨p, 0, none⟩ : Addr).add 39).add k)), .int .i64 (n : Nat)] H K := by
 rw [add_add]
 refine i_stF (x := .int .i64 (n : Nat)) hw.ob (hps.lt 1 rfl) (39 + k) rfl rfl oM fun g' h' st ho => ?_
 have ps := hps.step 1 rfl st
 obtain ⟨g2, q1, q2⟩ := WO.of hg ps (hw.drop k hk n ho)
 exact hK g2 h' q1 q2
end
theorem F278_ok {N : Num} {Γ : Ctx} [GoodC Γ] (H81 : Sat (S81 N) (Γ 81)) (H39 : Sat S39 (Γ 39)) (H37 : Sat (S37 N) (Γ 37)) : Sat S278 (SF N Γ F278) := by
 rintro _ h K ⟨g, p, w, fed, rd, reader, rfl, ⟨F, rv, av, pd, pt, px, mk, kv, gw, gr, gd, gt, gx, gk, ga, hps, hw⟩, hg, hok, hfed, hre, hrd, hK⟩
 have hp := hps.rest hg
 unfold Rd.bad at hrd
 obtain ⟨hA9, hd1, hd2, hd3, hd4⟩ : w.A.length ≤ 1818 ∧ w.dr 1 ≤ 1818 ∧ w.dr 2 ≤ 1818 ∧ w.dr 3 ≤ 1818 ∧ w.dr 4 ≤ 1818 := by have := hok.sum; omega
 refine i_fun rfl ?_
 simp only [F278, Ze, Nat.reduceSub, Nat.reduceAdd, aggD]
 refine sw0 ?_
 refine i_call H81 ⟨rd.tag, rfl, fun h1 hle1 => ?_⟩
 unfold tgV aggT
 cases htg : tagOf rd.tag with
 | none =>
  simp only [Option.getD, Option.isSome, errV_zero]
  have e1 : w.read reader rd = { w with dr := upN w.dr 1 (w.dr 1 + 1) } := by unfold Wa.read; rw [if_pos htg]
  rw [e1] at hK
  have Q1 := hp.up hle1
  have C1 := hw.c39 (Q1.lt 1 rfl) (k := 1) oM
  have wi : IntKind.i64.wrap ((w.dr 1 : Int) + 1) = ((w.dr 1 + 1 : Nat) : Int) := by rw [w64 oM oM]; omega
  refine sw3 @errV_succ @C1 @wi ?_
  refine i_drop hg Q1 hw 1 oM _ fun g' h' st hw' => ?_
  refine sw0 ?_
  exact hK g' h' st hw'
 | some t =>
  simp only [Option.getD, Option.isSome, if_true, errV_zero]
  have Q1 := hp.up hle1
  have hwh := hok.wh (4 * reader + rd.ant.toNat) oM
  have CW := hw.cWh (Q1.lt 1 rfl) (r := reader) (a := rd.ant.toNat) oM oM
  unfold Wa.read at hK
  rw [if_neg (by rw [htg]; simp)] at hK
  generalize hpl : w.c (6 + (4 * reader + rd.ant.toNat)) = pl at *
  refine sw1 @CW ?_
  refine i_cond (fun c1 => ?_) (fun c1 => ?_)
  ·rw [if_pos c1] at hK
   have C1 := hw.c39 (Q1.lt 1 rfl) (k := 2) oM
   have wi : IntKind.i64.wrap ((w.dr 2 : Int) + 1) = ((w.dr 2 + 1 : Nat) : Int) := by rw [w64 oM oM]; omega
   refine sw2 @C1 @wi ?_
   refine i_drop hg Q1 hw 2 oM _ fun g' h' st hw' => ?_
   refine sw0 ?_
   exact hK g' h' st hw'
  rw [if_neg c1] at hK
  obtain ⟨bs, ck, hmb⟩ := hw.km
  have hml := hmb.le (Q1.lt 6 rfl)
  have L1 := hw.kn.lkp hml rd.tag
  have L2 := hw.kn.mlen hml
  have C38 := hw.c38 (Q1.lt 1 rfl)
  refine sw3 @C38 @L1 @L2 ?_
  refine i_cond (fun c2 => ?_) (fun c2 => ?_)
  ·rw [if_pos (by exact ⟨c2.1, by have := c2.2; omega⟩)] at hK
   have C1 := hw.c39 (Q1.lt 1 rfl) (k := 4) oM
   have wi : IntKind.i64.wrap ((w.dr 4 : Int) + 1) = ((w.dr 4 + 1 : Nat) : Int) := by rw [w64 oM oM]; omega
   refine sw2 @C1 @wi ?_
   refine i_drop hg Q1 hw 4 oM _ fun g' h' st hw' => ?_
   refine sw0 ?_
   exact hK g' h' st hw'
  rw [if_neg (fun e => c2 ⟨e.1, by have := e.2; omega⟩)] at hK
  have C35 := hw.c35 (Q1.lt 1 rfl)
  refine sw1 @C35 ?_
  refine i_call H39 ⟨gd, pd, _, _, _, _, rfl, hw.dk, Q1.lt 3 rfl, ?_⟩
  have C35' := hw.c35 (Heap.le.refl gw)
  refine i_lex gw (Q1.lt 1 rfl) ?_ (le_one (Q1.lt 1 rfl)) ?_
  ·intro l' hl'
   simp only [List.mem_cons, List.not_mem_nil, or_false] at hl'
   rcases hl' with rfl | rfl | rfl | rfl
   ·exact ⟨true, rfl, fun _ => ⟨.v (.int .i64 rd.str), by try simp (disch := first | omega | (simp only [PL]; omega)) only [Zr, simprocAttr, -reduceIte]⟩⟩
   ·exact ⟨true, rfl, fun _ => ⟨.v (.int .i64 rd.age), by try simp (disch := first | omega | (simp only [PL]; omega)) only [Zr, simprocAttr, -reduceIte]⟩⟩
   ·exact ⟨true, rfl, fun _ => ⟨.v (.string (str rd.tag)), by try simp (disch := first | omega | (simp only [PL]; omega)) only [Zr, simprocAttr, -reduceIte]⟩⟩
   ·exact ⟨true, rfl, fun _ => ⟨.v (.pointer (some ⟨pd, 0, none⟩)), by try simp (disch := first | omega | (simp only [PL]; omega)) only [Zr, simprocAttr, -reduceIte, C35']⟩⟩
  have wi : IntKind.i64.wrap ((w.now : Int) - rd.age) = (w.now : Int) - rd.age := by have := hok.now; rw [w64 oM oM]
  refine sw2 @C35 @wi ?_
  have hc0 := hok.c0
  have hc1 := hok.c1
  have hnow := hok.now
  refine i_call H37 ⟨gd, pd, _, _, _, _, ⟨pl, rd.str, w.now - rd.age, rd.tag⟩, rfl, hw.dk, Q1.lt 3 rfl, oM, oM, oM, oM, oM, fun hn => ?_, fun hn gd' h2 st2 hP2 => ?_⟩
  ·rw [if_pos hn] at hK
   have C1 := hw.c39 (Q1.lt 1 rfl) (k := 3) oM
   have wi : IntKind.i64.wrap ((w.dr 3 : Int) + 1) = ((w.dr 3 + 1 : Nat) : Int) := by rw [w64 oM oM]; omega
   rw [errV_pos N hn]
   refine sw2 @C1 @wi ?_
   refine i_drop hg Q1 hw 3 oM _ fun g' h' st hw' => ?_
   refine sw0 ?_
   exact hK g' h' st hw'
  rw [if_neg (by simpa using hn)] at hK
  have Q2 := Q1.step 3 rfl st2
  have C38' := hw.c38 (Q2.lt 1 rfl)
  refine sw1 @C38' ?_
  refine i_mupd (kb := .str) (ek := encKS) (ev := encBv) hmb (Q2.lt 6 rfl) rd.tag true fun o bs' ck' hmb' st3 _ => ?_
  have Q3 := Q2.step 6 rfl st3
  refine sw0 ?_
  obtain ⟨g4, q1, q2⟩ := WO.of (w := { w with A := w.A ++ [⟨pl, rd.str, w.now - rd.age, rd.tag⟩], kn := if rd.tag ∈ w.kn then w.kn else w.kn ++ [rd.tag] }) hg Q3
   { ob := hw.ob, wf := hw.wf.same rfl rfl rfl rfl, rs := hw.rs, dk := hP2, tr := hw.tr, ix := hw.ix, km := ⟨bs', ck', hmb'⟩, kn := hw.kn.add rd.tag, al := hw.al }
  exact hK g4 _ q1 q2
theorem Wa.Ok.read {w : Wa} {fed reader : Nat} {rd : Rd} (h : w.Ok fed) : (w.read reader rd).Ok (fed + 11) := by
 obtain ⟨a0, a1, a2, a3, a4, a5, a6, a7, a8, a9, a10, a11, a12, a13, a14, a15, a16, a17⟩ := h
 unfold Wa.read
 dsimp only
 split
 ·exact ⟨a0, a1, a2, a3, a4, a5, a6, a7, a8, a9, by simp only [upN]; simp; omega, by simp [upN, a11], a12, a13, a14, a15, a16, a17⟩
 rename_i ht
 split
 ·exact ⟨a0, a1, a2, a3, a4, a5, a6, a7, a8, a9, by simp only [upN]; simp; omega, by simp [upN, a11], a12, a13, a14, a15, a16, a17⟩
 split
 ·exact ⟨a0, a1, a2, a3, a4, a5, a6, a7, a8, a9, by simp only [upN]; simp; omega, by simp [upN, a11], a12, a13, a14, a15, a16, a17⟩
 rename_i hk
 split
 ·exact ⟨a0, a1, a2, a3, a4, a5, a6, a7, a8, a9, by simp only [upN]; simp; omega, by simp [upN, a11], a12, a13, a14, a15, a16, a17⟩
 rename_i hf
 have hsub : ∀ t, t ∈ w.kn → t ∈ (if rd.tag ∈ w.kn then w.kn else w.kn ++ [rd.tag]) := by
  intro t ht; split; exact ht; exact List.mem_append_left _ ht
 refine ⟨a0, a1, a2, a3, a4, a5, a6, a7, a8, a9, by simp; omega, a11, ?_, ?_, ?_, a15, ?_, a17⟩
 ·dsimp only
  split
  ·exact a12
  ·rename_i e
   have : w.kn.length ≠ 12 := fun e2 => hk ⟨e, e2⟩
   simp; omega
 ·dsimp only
  split
  ·exact a13
  ·rename_i e
   exact List.nodup_append.2 ⟨a13, by simp, fun x hx y hy e3 => by simp at hy; subst hy; subst e3; exact e hx⟩
 ·intro s hs
  rcases List.mem_append.1 hs with hs | hs
  ·obtain ⟨b1, b2, b3⟩ := a14 s hs
   exact ⟨b1, hsub _ b2, b3⟩
  ·rw [List.mem_singleton.1 hs]
   refine ⟨?_, ?_, ?_⟩
   ·have hf' : adF (w.c 0).toNat (w.c 1).toNat w.now ⟨w.c (6 + (4 * reader + rd.ant.toNat)), rd.str, w.now - rd.age, rd.tag⟩ = 0 := by simpa using hf
    unfold adF at hf'
    split at hf'
    ·cases hf'
    ·rename_i e
     unfold adBad at e ⊢
     omega
   ·dsimp only
    split
    ·assumption
    ·simp
   ·rw [Ne, kindOf_zero]; exact ht
 ·intro l hl
  obtain ⟨b1, b2⟩ := a16 l hl
  exact ⟨b1, fun s hs => ⟨(b2 s hs).1, hsub _ (b2 s hs).2.1, (b2 s hs).2.2⟩⟩
end Go.Cw
namespace Go.Cw
open Go
def Wa.frame (w : Wa) (reader : Nat) (f : Fr) : Wa :=
 let w1 := f.reads.foldl (fun w r => w.read reader r) w
 if f.ty = 3 then { w1 with wm := upN w1.wm reader f.warm } else w1
def Wa.line (w : Wa) (reader : Nat) (s : List UInt8) : Wa := { w with ln := upN w.ln reader ((feed ((w.ln reader).1 ++ s)).2.1, (w.ln reader).2 + (feed ((w.ln reader).1 ++ s)).2.2) }
def Wa.feed (w : Wa) (reader : Nat) (s : List UInt8) : Wa := (Cw.feed ((w.ln reader).1 ++ s)).1.foldl (fun w f => w.frame reader f) (w.line reader s)
def Wa.feedN (w : Wa) (reader : Nat) (s : List UInt8) : Nat := (Cw.feed ((w.ln reader).1 ++ s)).1.length
def feedF (reader : Int) (s : List UInt8) : Nat := if reader < 0 ∨ 3 < reader then 1 else if 2000 < s.length then 2 else 0
theorem WO.warm {N : Num} {Γ : Ctx} {g h : Heap} {p : Nat} {w : Wa} (hw : WO g p w) (hg : Heap.le g h) {k : Nat} (hk : k < 4) (n : Int) {K : Value → Heap → Prop}
  (hK : ∀ g' h', Step g h g' h' → WO g' p { w with wm := upN w.wm k n } → K undef h') : efW N Γ (.st 1) [.pointer (some (((⟨p, 0, none⟩ : Addr).add 31).add k)), .int .i64 n] h K := by
 obtain ⟨F, rv, av, pd, pt, px, mk, kv, gw, gr, gd, gt, gx, gk, ga, hps, hw⟩ := hw
 have Q := hps.rest hg
 rw [add_add]
 refine i_stF (x := .int .i64 n) hw.ob (Q.lt 1 rfl) (31 + k) rfl rfl oM fun g' h' st ho => ?_
 obtain ⟨g2, q1, q2⟩ := WO.of hg (Q.step 1 rfl st) { hw with ob := ho, wf := hw.wf.warm k hk n }
 exact hK g2 h' q1 q2
theorem WO.lineAt {g h : Heap} {p : Nat} {w : Wa} (hw : WO g p w) (hg : Heap.le g h) {k : Nat} (hk : k < 4) : LineAt h ⟨p, 23 + 2 * k, none⟩ (w.ln k).1 (w.ln k).2 := by
 obtain ⟨F, rv, av, pd, pt, px, mk, kv, gw, gr, gd, gt, gx, gk, ga, hps, hw⟩ := hw
 have := (hw.ob.le ((hps.lt 0 rfl).trans hg)).part2 (j := 23 + 2 * k) oM
 rw [hw.wf.l1 k hk, show 23 + 2 * k + 1 = 24 + 2 * k by omega, hw.wf.l2 k hk] at this
 exact this
theorem WO.line {g h h' : Heap} {p : Nat} {w : Wa} (hw : WO g p w) (hg : Heap.le g h) {k : Nat} (hk : k < 4) {a : List UInt8} {n : Nat} (hkp : keeps ⟨p, 23 + 2 * k, none⟩ 2 h h') (hl : LineAt h' ⟨p, 23 + 2 * k, none⟩ a n) :
  ∃ g', Step g h g' h' ∧ (∀ b, g' b ≠ none → g b ≠ none) ∧ WO g' p { w with ln := upN w.ln k (a, n) } := by
 obtain ⟨F, rv, av, pd, pt, px, mk, kv, gw, gr, gd, gt, gx, gk, ga, hps, hw⟩ := hw
 have Q := hps.rest hg
 obtain ⟨gw', st, hd, ho⟩ := hw.ob.back2 (Q.lt 1 rfl) oM hkp hl
 have Q2 := Q.step 1 rfl st
 refine ⟨_, Q2.toStep hg, fun b hb => ?_, upF (upF F (23 + 2 * k) (.string (str a))) (23 + 2 * k + 1) (.int .i64 (n : Nat)), rv, av, pd, pt, px, mk, kv, gw', gr, gd, gt, gx, gk, ga, (Q2.drop 1).sub, { hw with ob := ho, wf := hw.wf.line k hk a n }⟩
 obtain ⟨x, hx, hxb⟩ := joinL_mem hb
 have : ∀ y ∈ [gw, gr, gd, gt, gx, gk, ga], y b ≠ none → g b ≠ none := fun y hy e => by
  intro e2
  exact e (le_none (hps.1 y hy) b e2)
 simp only [List.set, List.mem_cons, List.not_mem_nil, or_false] at hx
 rcases hx with rfl | rfl | rfl | rfl | rfl | rfl | rfl
 ·exact this gw (by simp) (hd b hxb)
 all_goals exact this _ (by simp) hxb
theorem feed_cnt : ∀ (n : Nat) (s : List UInt8), s.length ≤ n → 11 * ((feed s).1.map fun f => f.reads.length).sum + (feed s).2.1.length + (feed s).2.2 ≤ s.length ∧ ∀ f ∈ (feed s).1, f.fault = 0 := by
 intro n
 induction n with
 | zero =>
  intro s hs
  have : s = [] := List.eq_nil_of_length_eq_zero oM
  subst this
  rw [feed_nil]; simp
 | succ n ih =>
  intro s hs
  by_cases h0 : s = []
  ·subst h0; rw [feed_nil]; simp
  have hl : 0 < s.length := List.length_pos_iff.2 h0
  rw [feed_cons h0]
  cases hf : fAt s with
  | some q =>
   obtain ⟨f, k⟩ := q
   obtain ⟨h1, h2, h3, h4, h5⟩ := fAt_pos hf
   obtain ⟨i1, i2⟩ := ih (s.drop k) (by rw [List.length_drop]; omega)
   rw [List.length_drop] at i1
   have hr : 11 * f.reads.length ≤ k := by
    have e := congrArg List.length h5
    rw [List.length_take] at e
    have e2 : 11 * f.reads.length ≤ f.bytes.length := by
     unfold Fr.fault at h4
     by_cases h31 : f.ty < 1 ∨ f.ty > 3
     ·rw [if_pos h31] at h4; cases h4
     rw [if_neg h31] at h4
     by_cases h32 : f.ty ≠ 1 ∧ 0 < f.reads.length ∨ f.ty ≠ 3 ∧ f.warm ≠ 0
     ·rw [if_pos h32] at h4; cases h4
     rw [if_neg h32] at h4
     by_cases h33 : f.warm < 0 ∨ f.warm > 255
     ·rw [if_pos h33] at h4; cases h4
     rw [if_neg h33] at h4
     by_cases h34 : 4 < f.reads.length
     ·rw [if_pos h34] at h4; cases h4
     rw [if_neg h34] at h4
     by_cases h35 : ∃ r ∈ f.reads, r.bad
     ·rw [if_pos h35] at h4; cases h4
     by_cases h36 : f.ty = 3
     ·omega
     ·have := bytes_len f.reads fun r hr => Classical.byContradiction fun e => h35 ⟨r, hr, by unfold Rd.bad; omega⟩
      unfold Fr.bytes Fr.front Fr.body
      rw [if_neg h36]
      simp only [List.length_append, List.length_cons, List.length_nil, this]
      omega
    omega
   simp only [List.map_cons, List.sum_cons]
   refine ⟨oM, fun g hg => ?_⟩
   rcases List.mem_cons.1 hg with rfl | hg
   ·exact h4
   ·exact i2 g hg
  | none =>
   dsimp only
   split
   ·simp
   ·obtain ⟨i1, i2⟩ := ih (s.drop 1) (by rw [List.length_drop]; omega)
    rw [List.length_drop] at i1
    dsimp only
    exact ⟨oM, i2⟩
theorem fault_reads {f : Fr} (h4 : f.fault = 0) : (f.ty = 1 ∨ f.ty = 2 ∨ f.ty = 3) ∧ (∀ r ∈ f.reads, ¬ r.bad) ∧ (f.ty = 1 ∨ f.reads = []) ∧ f.reads.length ≤ 4 ∧ 0 ≤ f.warm ∧ f.warm ≤ 255 := by
 unfold Fr.fault at h4
 by_cases h31 : f.ty < 1 ∨ f.ty > 3
 ·rw [if_pos h31] at h4; cases h4
 rw [if_neg h31] at h4
 by_cases h32 : f.ty ≠ 1 ∧ 0 < f.reads.length ∨ f.ty ≠ 3 ∧ f.warm ≠ 0
 ·rw [if_pos h32] at h4; cases h4
 rw [if_neg h32] at h4
 by_cases h33 : f.warm < 0 ∨ f.warm > 255
 ·rw [if_pos h33] at h4; cases h4
 rw [if_neg h33] at h4
 by_cases h34 : 4 < f.reads.length
 ·rw [if_pos h34] at h4; cases h4
 rw [if_neg h34] at h4
 by_cases h35 : ∃ r ∈ f.reads, r.bad
 ·rw [if_pos h35] at h4; cases h4
 refine ⟨oM, fun r hr e => h35 ⟨r, hr, e⟩, ?_, oM, oM, oM⟩
 by_cases e : f.ty = 1
 ·exact .inl e
 ·exact .inr (List.eq_nil_of_length_eq_zero oM)
theorem Wa.Ok.mono {w : Wa} {a b : Nat} (h : w.Ok a) (hl : a ≤ b) : w.Ok b := { h with sum := Nat.le_trans h.sum hl }
theorem Wa.Ok.reads {reader : Nat} (l : List Rd) : ∀ {w : Wa} {fed : Nat}, w.Ok fed → (l.foldl (fun w r => w.read reader r) w).Ok (fed + 11 * l.length) := by
 induction l with
 | nil => intro w fed h; exact h
 | cons r l ih => intro w fed h; exact (ih (h.read (rd := r))).mono (by simp; omega)
theorem Wa.Ok.frame {w : Wa} {fed reader : Nat} {f : Fr} (h : w.Ok fed) : (w.frame reader f).Ok (fed + 11 * f.reads.length) := by
 unfold Wa.frame
 have := h.reads (w := w) (reader := reader) (fed := fed) f.reads
 dsimp only
 split
 ·exact { this with }
 ·exact this
theorem Wa.Ok.frames {reader : Nat} (l : List Fr) : ∀ {w : Wa} {fed : Nat}, w.Ok fed → (l.foldl (fun w f => w.frame reader f) w).Ok (fed + 11 * (l.map fun f => f.reads.length).sum) := by
 induction l with
 | nil => intro w fed h; exact h
 | cons r l ih => intro w fed h; exact (ih (h.frame (f := r))).mono (by simp; omega)
theorem Wa.Ok.line {w : Wa} {fed reader : Nat} {s : List UInt8} (hr : reader < 4) (h : w.Ok fed) : ∃ k, (w.line reader s).Ok k ∧ k + 11 * ((Cw.feed ((w.ln reader).1 ++ s)).1.map fun f => f.reads.length).sum ≤ fed + s.length := by
 have hs := (feed_cnt _ ((w.ln reader).1 ++ s) (Nat.le_refl _)).1
 rw [List.length_append] at hs
 have h2 := h.sum
 refine ⟨fed + s.length - 11 * ((Cw.feed ((w.ln reader).1 ++ s)).1.map fun f => f.reads.length).sum, { h with sum := ?_ }, ?_⟩
 ·unfold Wa.line
  rcases (by omega : reader = 0 ∨ reader = 1 ∨ reader = 2 ∨ reader = 3) with rfl | rfl | rfl | rfl <;> simp only [upN] <;> simp <;> omega
 ·rcases (by omega : reader = 0 ∨ reader = 1 ∨ reader = 2 ∨ reader = 3) with rfl | rfl | rfl | rfl <;> omega
theorem Wa.Ok.feed {w : Wa} {fed reader : Nat} {s : List UInt8} (hr : reader < 4) (h : w.Ok fed) : (w.feed reader s).Ok (fed + s.length) := by
 obtain ⟨k, h1, h2⟩ := h.line (s := s) hr
 exact (h1.frames _).mono h2
theorem sum_take_le (l : List Nat) (n : Nat) : (l.take n).sum ≤ l.sum := by
 conv => rhs; rw [← List.take_append_drop n l]
 rw [List.sum_append]; omega
theorem Ps.step1 {g h g' H' : Heap} {gs : List Heap} (hg : Heap.le g h) (p : Ps H' (Cw.rest g h :: g' :: gs)) : Step g h g' H' := by
 have := (p.take 2).toStep hg
 have e : joinL ([g'] : List Heap) = g' := by funext b; simp only [joinL, join]; cases g' b <;> rfl
 simp only [List.take] at this
 rwa [e] at this
theorem feed_len : ∀ (n : Nat) (s : List UInt8), s.length ≤ n → (feed s).1.length ≤ s.length := by
 intro n
 induction n with
 | zero =>
  intro s hs
  have : s = [] := List.eq_nil_of_length_eq_zero oM
  subst this
  rw [feed_nil]; simp
 | succ n ih =>
  intro s hs
  by_cases h0 : s = []
  ·subst h0; rw [feed_nil]; simp
  have hl : 0 < s.length := List.length_pos_iff.2 h0
  rw [feed_cons h0]
  cases hf : fAt s with
  | some q =>
   obtain ⟨f, k⟩ := q
   obtain ⟨h1, h2, h3, h4, h5⟩ := fAt_pos hf
   have i1 := ih (s.drop k) (by rw [List.length_drop]; omega)
   rw [List.length_drop] at i1
   simp; omega
  | none =>
   dsimp only
   split
   ·simp
   ·have i1 := ih (s.drop 1) (by rw [List.length_drop]; omega)
    rw [List.length_drop] at i1
    dsimp only; omega
theorem fr_le' {a : Addr} {n : Nat} {h h' : Heap} (hk : keeps a n h h') : Heap.le (fr h h') h' := fr_le _ _
def S271 (N : Num) : Spec := fun args h K => ∃ g p w fed, ∃ reader : Int, ∃ s, args = [.pointer (some ⟨p, 0, none⟩), .int .i64 reader, .string (str s)] ∧ WO g p w ∧ Heap.le g h ∧ w.Ok fed ∧ (feedF reader s = 0 → fed + s.length ≤ 20000) ∧
 (feedF reader s ≠ 0 → K (.tuple #[.int .i64 0, errV N (feedF reader s)]) h) ∧
 (feedF reader s = 0 → ∀ g' h', Step g h g' h' → WO g' p (w.feed reader.toNat s) → K (.tuple #[.int .i64 (w.feedN reader.toNat s : Nat), .nilIface]) h')
theorem F271_ok {N : Num} {Γ : Ctx} [GoodC Γ] (H24 : Sat S24 (Γ 24)) (H278 : Sat S278 (Γ 278)) : Sat (S271 N) (SF N Γ F271) := by
 rintro _ h K ⟨g, p, w, fed, reader, s, rfl, hw, hg, hok, hfed, hK1, hK2⟩
 refine i_fun rfl ?_
 simp only [F271, Ze, Nat.reduceSub, Nat.reduceAdd]
 unfold feedF at hK1 hK2 hfed
 refine sw0 ?_
 refine i_cond (fun c1 => ?_) (fun c1 => ?_)
 ·rw [if_pos oM] at hK1
  refine sw0 ?_
  exact hK1 oM
 rw [if_neg oM] at hK1 hK2 hfed
 obtain ⟨rn, rfl⟩ : ∃ n : Nat, reader = n := ⟨reader.toNat, oM⟩
 rw [Int.toNat_natCast] at hK2
 have hr4 : rn < 4 := oM
 refine sw0 ?_
 refine i_cond (fun c2 => ?_) (fun c2 => ?_)
 ·rw [if_pos oM] at hK1
  refine sw0 ?_
  exact hK1 oM
 rw [if_neg oM] at hK2 hfed
 have hfed := hfed rfl
 have hK := hK2 rfl
 clear hK1 hK2
 have hla := hw.lineAt hg hr4
 obtain ⟨hr1, hr2⟩ : (w.ln rn).1.length ≤ 20000 ∧ (w.ln rn).2 ≤ 20000 := by
  have := hok.sum
  rcases (by omega : rn = 0 ∨ rn = 1 ∨ rn = 2 ∨ rn = 3) with rfl | rfl | rfl | rfl <;> omega
 have hadr : ((⟨p, 0, none⟩ : Addr).add 23).add (rn * 2) = ⟨p, 23 + 2 * rn, none⟩ := by rw [add_add, addr_add' _ rfl, Nat.zero_add, Nat.mul_comm]
 refine sw1 @hadr ?_
 refine i_call H24 ⟨⟨p, 23 + 2 * rn, none⟩, _, _, s, rfl, hla, oM, oM, fun v h1 hkp hl1 hfv => ?_⟩
 obtain ⟨g1, st1, hdm, hw1⟩ := hw.line hg hr4 hkp hl1
 obtain ⟨k1, hok1, hk1⟩ := hok.line (s := s) hr4
 have hfl := (feed_cnt _ ((w.ln rn).1 ++ s) (Nat.le_refl _)).2
 have hfsl := feed_len _ ((w.ln rn).1 ++ s) (Nat.le_refl _)
 rw [List.length_append] at hfsl
 unfold Wa.feed Wa.feedN at hK
 unfold Wa.line at hK hok1
 generalize ({ w with ln := upN w.ln rn ((feed ((w.ln rn).1 ++ s)).2.1, (w.ln rn).2 + (feed ((w.ln rn).1 ++ s)).2.2) } : Wa) = w1 at *
 generalize (feed ((w.ln rn).1 ++ s)).1 = fs at *
 have hZ1 : Heap.le (fr h h1) h1 := fr_le' hkp
 have Q0 : Ps h1 [rest g h, g1, fr h h1] := by
  have q1 : Ps h [rest g h, g] := ⟨fun x hx => by simp at hx; rcases hx with rfl | rfl; exact rest_le _ _; exact hg, by simp; exact fun b hb => by unfold rest at hb; split at hb; assumption; exact absurd rfl hb⟩
  refine (q1.step 1 rfl st1).add hZ1 fun x hx b hb => ?_
  have hx' : x = rest g h ∨ x = g1 := by simpa [List.set] using hx
  have hhb : h b ≠ none := by
   rcases hx' with rfl | rfl
   ·exact fun e => hb (le_none (rest_le _ _) b e)
   ·exact fun e => hdm b hb (le_none hg b e)
  unfold fr
  cases e : h b with
  | none => exact absurd e hhb
  | some o => rfl
 obtain ⟨rs, hsl, hrl, hrk⟩ := hfv
 have hone := hsl.one
 have R := (hsl.le hZ1).rules 3 FrR.enc_len default
 rw [hrl] at R
 refine sw1 @R ?_
 refine i_loop (fun i : Nat => [some (.pointer (some ⟨p, 0, none⟩)), some (.int .i64 (rn : Nat)), none, none, none, some v, none, none, none, none, none, some v, some (.int .i64 fs.length), some (.int .i64 (i : Nat)), none, none, none, none, none, none, none, none])
  (fun i H => i ≤ fs.length ∧ ∃ gW, Ps H [rest g h, gW, fr h h1] ∧ WO gW p ((fs.take i).foldl (fun w f => w.frame rn f) w1)) (fun i => fs.length - i) 0 (by try simp only [Pf]; rfl) ⟨oM, g1, Q0, hw1⟩ ?_
 rintro i H ⟨hi, gW, Q, hW⟩
 have hi1 : IntKind.i64.wrap ((i : Int) + 1) = ((i + 1 : Nat) : Int) := by rw [w64 oM oM]; omega
 have R := (hsl.le (Q.lt 2 rfl)).rules 3 FrR.enc_len default
 rw [hrl] at R
 refine sw0 ?_
 refine i_cond (fun c3 => ?_) (fun c3 => ?_)
 rotate_left
 ·have : i = fs.length := oM
  subst this
  rw [List.take_length] at hW
  refine sw1 @R ?_
  exact hK _ _ (Q.step1 hg) hW
 have hi2 : i < fs.length := oM
 obtain ⟨e1, e2, e3⟩ := hrk i hi2
 have hnx : fs.take (i + 1) = fs.take i ++ [fs.getD i default] := take_succ_d default hi2
 have hft := hfl _ (getD_mem default hi2)
 obtain ⟨t1, t2, t3, t4, t5, t6⟩ := fault_reads hft
 have hokw := hok1.frames (reader := rn) (fs.take i)
 have hsumi : ((fs.take i).map fun f => f.reads.length).sum + (fs.getD i default).reads.length ≤ (fs.map fun f => f.reads.length).sum := by
  have := sum_take_le (fs.map fun f => f.reads.length) (i + 1)
  rw [← List.map_take, hnx, List.map_append, List.sum_append] at this
  simpa using this
 generalize hfe : fs.getD i default = f at *
 generalize hre : rs.getD i default = r at *
 have RR := (e3.le (Q.lt 2 rfl)).rules 4 (fun _ => rfl) default
 have hro := e3.one
 refine sw6 @R @hre @FrR.enc.eq_1 @RR hro.1 hro.2 ?_
 generalize hw2 : (fs.take i).foldl (fun w f => w.frame rn f) w1 = w2 at *
 refine i_meet_blk (fun env H' => ∃ gW, Ps H' [rest g h, gW, fr h h1] ∧ WO gW p (f.reads.foldl (fun w r => w.read rn r) w2) ∧ env = [some (.pointer (some ⟨p, 0, none⟩)), some (.int .i64 (rn : Nat)), none, none, none, some v, some (.agg #[.int .i64 f.ty, r.sv, .int .i64 f.warm]), none, none, none, none, some v, some (.int .i64 fs.length), some (.int .i64 (i : Nat)), none, none, none, none, none, none, none, none]) ?_ ?_
 rotate_left
 ·refine i_loop (fun k : Nat => [some (.pointer (some ⟨p, 0, none⟩)), some (.int .i64 (rn : Nat)), none, none, none, some v, some (.agg #[.int .i64 f.ty, r.sv, .int .i64 f.warm]), none, none, none, none, some v, some (.int .i64 fs.length), some (.int .i64 (i : Nat)), none, none, some r.sv, some (.int .i64 f.reads.length), some (.int .i64 (k : Nat)), none, none, none])
   (fun k H => k ≤ f.reads.length ∧ ∃ gW, Ps H [rest g h, gW, fr h h1] ∧ WO gW p ((f.reads.take k).foldl (fun w r => w.read rn r) w2)) (fun k => f.reads.length - k) 0 (by try simp only [Pf]; rw [e1, e2]; exact ⟨rfl, rfl⟩) ⟨oM, gW, Q, hW⟩ ?_
  clear hW Q gW
  rintro k H ⟨hk, gW, Q, hW⟩
  have hk1 : IntKind.i64.wrap ((k : Int) + 1) = ((k + 1 : Nat) : Int) := by rw [w64 oM oM]; omega
  have RR := (e3.le (Q.lt 2 rfl)).rules 4 (fun _ => rfl) default
  refine sw0 ?_
  refine i_cond (fun c4 => ?_) (fun c4 => ?_)
  rotate_left
  ·have : k = f.reads.length := oM
   subst this
   rw [List.take_length] at hW
   refine sw0 ?_
   exact k_meet _ sE ⟨gW, Q, hW, rfl⟩
  have hk2 : k < f.reads.length := oM
  have hnr : f.reads.take (k + 1) = f.reads.take k ++ [f.reads.getD k default] := take_succ_d default hk2
  have hrb := t2 _ (getD_mem default hk2)
  generalize hde : f.reads.getD k default = rd at *
  refine sw3 @RR @hde @Rd.enc.eq_1 ?_
  have hok3 := hokw.reads (reader := rn) (f.reads.take k)
  refine i_call H278 ⟨gW, p, _, _, rd, rn, rfl, hW, Q.lt 1 rfl, hok3, by rw [List.length_take]; omega, hr4, hrb, fun g5 h5 st5 hW5 => ?_⟩
  have Q5 := Q.step 1 rfl st5
  refine sw1 @hk1 ?_
  exact k_loop (k + 1) oM sE ⟨oM, g5, Q5, by rw [hnr, List.foldl_append]; exact hW5⟩
 clear hW Q gW R RR hi1
 rintro env H' ⟨gW, Q, hW, rfl⟩
 have hi1 : IntKind.i64.wrap ((i : Int) + 1) = ((i + 1 : Nat) : Int) := by rw [w64 oM oM]; omega
 have hfr : (fs.take (i + 1)).foldl (fun w f => w.frame rn f) w1 = if f.ty = 3 then { (f.reads.foldl (fun w r => w.read rn r) w2) with wm := upN (f.reads.foldl (fun w r => w.read rn r) w2).wm rn f.warm } else f.reads.foldl (fun w r => w.read rn r) w2 := by rw [hnx, List.foldl_append, hw2]; rfl
 generalize f.reads.foldl (fun w r => w.read rn r) w2 = w3 at *
 refine sw0 ?_
 refine i_cond (fun c5 => ?_) (fun c5 => ?_)
 ·rw [if_pos c5] at hfr
  refine sw0 ?_
  refine hW.warm (Q.lt 1 rfl) hr4 f.warm fun g6 h6 st6 hW6 => ?_
  have Q6 := Q.step 1 rfl st6
  refine sw1 @hi1 ?_
  exact k_loop (i + 1) oM sE ⟨oM, g6, Q6, by rw [hfr]; exact hW6⟩
 ·rw [if_neg c5] at hfr
  refine sw1 @hi1 ?_
  exact k_loop (i + 1) oM sE ⟨oM, gW, Q, by rw [hfr]; exact hW⟩
theorem ordT_ext : ∀ {l m : List (List UInt8)}, ordT l → ordT m → (∀ t, t ∈ l ↔ t ∈ m) → l = m := by
 intro l
 induction l with
 | nil =>
  intro m _ _ h
  cases m with
  | nil => rfl
  | cons b m => exact absurd ((h b).2 (by simp)) (by simp)
 | cons a l ih =>
  intro m hl hm h
  cases m with
  | nil => exact absurd ((h a).1 (by simp)) (by simp)
  | cons b m =>
   obtain ⟨l1, l2⟩ := List.pairwise_cons.1 hl
   obtain ⟨m1, m2⟩ := List.pairwise_cons.1 hm
   have hab : a = b := by
    refine Classical.byContradiction fun e => ?_
    have h1 : a ∈ m := by
     rcases List.mem_cons.1 ((h a).1 (by simp)) with e2 | e2
     ·exact absurd e2 e
     ·exact e2
    have h2 : b ∈ l := by
     rcases List.mem_cons.1 ((h b).2 (by simp)) with e2 | e2
     ·exact absurd e2.symm e
     ·exact e2
    have := bless_asymm (l1 b h2)
    rw [m1 a h1] at this; cases this
   subst hab
   rw [ih l2 m2 fun t => ?_]
   constructor
   ·intro ht
    rcases List.mem_cons.1 ((h t).1 (List.mem_cons_of_mem _ ht)) with e2 | e2
    ·subst e2; have := l1 t ht; rw [bless_irr] at this; cases this
    ·exact e2
   ·intro ht
    rcases List.mem_cons.1 ((h t).2 (List.mem_cons_of_mem _ ht)) with e2 | e2
    ·subst e2; have := m1 t ht; rw [bless_irr] at this; cases this
    ·exact e2
def Wa.lookR (w : Wa) (n i : Nat) (ts : List (List UInt8)) : List Al := (ts.filter fun t => holdR (w.c 2).toNat (w.c 3).toNat w.E (w.rs.getD i default) t n).map fun t => ⟨i, n, t⟩
def Wa.lookN (w : Wa) (n i : Nat) : List Al := (List.range i).flatMap fun i => w.lookR n i (tagsE w.E)
def Wa.look (w : Wa) (n : Nat) : List Al := w.lookN n w.rs.length
theorem Wa.lookR_len (w : Wa) (n i : Nat) (ts : List (List UInt8)) : (w.lookR n i ts).length ≤ ts.length := by unfold Wa.lookR; rw [List.length_map]; exact List.length_filter_le _ _
theorem Wa.lookN_succ (w : Wa) (n i : Nat) : w.lookN n (i + 1) = w.lookN n i ++ w.lookR n i (tagsE w.E) := by simp [Wa.lookN, List.range_succ]
theorem Wa.lookN_len (w : Wa) (n i : Nat) : (w.lookN n i).length ≤ i * (tagsE w.E).length := by
 induction i with
 | zero => simp [Wa.lookN]
 | succ i ih => rw [Wa.lookN_succ, List.length_append]; have := w.lookR_len n i (tagsE w.E); rw [Nat.succ_mul]; omega
def GathA (wkv : List (List UInt8 × Value)) (bs dn : List Nat) (l : List (List UInt8)) : Prop :=
 l.Nodup ∧ l.length ≤ dn.length ∧ ∀ t, t ∈ l ↔ ∃ (j b : Nat) (u : Value), wkv[j]? = some (t, u) ∧ bs[j]? = some b ∧ b ∈ dn
theorem GathA.take {wkv : List (List UInt8 × Value)} {bs dn : List Nat} {l : List (List UInt8)} (h : GathA wkv bs dn l) {j b : Nat} {key : List UInt8} {u : Value} (hj : wkv[j]? = some (key, u)) (hb : bs[j]? = some b) (hbs : bs.Nodup) (hnd : (wkv.map (·.1)).Nodup) (hnb : b ∉ dn) : GathA wkv bs (dn ++ [b]) (l ++ [key]) := by
 obtain ⟨h1, h2, h3⟩ := h
 refine ⟨?_, by simp; omega, fun t => ?_⟩
 ·refine List.nodup_append.2 ⟨h1, by simp, fun x hx y hy e => ?_⟩
  simp at hy; subst hy; subst e
  obtain ⟨j2, b2, u2, q1, q2, q3⟩ := (h3 _).1 hx
  have e1 : j2 = j := by
   obtain ⟨g1, g2⟩ := List.getElem?_eq_some_iff.1 q1
   obtain ⟨g3, g4⟩ := List.getElem?_eq_some_iff.1 hj
   have hx1 : (wkv.map (·.1))[j2]'(by simpa using g1) = (wkv.map (·.1))[j]'(by simpa using g3) := by simp [g2, g4]
   exact (List.getElem_inj hnd).1 hx1
  subst e1
  rw [hb] at q2; cases q2
  exact hnb q3
 ·constructor
  ·intro ht
   rcases List.mem_append.1 ht with ht | ht
   ·obtain ⟨j2, b2, u2, q1, q2, q3⟩ := (h3 t).1 ht
    exact ⟨j2, b2, u2, q1, q2, List.mem_append_left _ q3⟩
   ·rw [List.mem_singleton.1 ht]
    exact ⟨j, b, u, hj, hb, by simp⟩
  ·rintro ⟨j2, b2, u2, q1, q2, q3⟩
   rcases List.mem_append.1 q3 with q3 | q3
   ·exact List.mem_append_left _ ((h3 t).2 ⟨j2, b2, u2, q1, q2, q3⟩)
   ·have e := List.mem_singleton.1 q3
    subst e
    have e1 : j2 = j := by
     obtain ⟨g1, g2⟩ := List.getElem?_eq_some_iff.1 q2
     obtain ⟨g3, g4⟩ := List.getElem?_eq_some_iff.1 hb
     exact (List.getElem_inj hbs).1 (by rw [g2, g4])
    subst e1
    rw [hj] at q1; cases q1
    simp
def S277 : Spec := fun args h K => ∃ g p w, ∃ n : Nat, args = [.pointer (some ⟨p, 0, none⟩), .int .i64 (n : Nat)] ∧ WO g p w ∧ Heap.le g h ∧ w.rs.length ≤ 6 ∧ (∀ r ∈ w.rs, r.name.length ≤ 1000) ∧ w.E.length ≤ 1000 ∧ (∀ l ∈ w.E, l.length ≤ 2000) ∧ (tagsE w.E).length ≤ 12 ∧ w.al.length ≤ 200000 ∧ n ≤ 1000 ∧
 ∀ g' h', Step g h g' h' → WO g' p { w with al := w.al ++ w.look n } → K (.tuple #[]) h'
theorem F277_ok {N : Num} {Γ : Ctx} [GoodC Γ] (H54 : Sat (S54 N) (Γ 54)) (H67 : Sat S67 (Γ 67)) (H174 : Sat (S174 N) (Γ 174)) : Sat S277 (SF N Γ F277) := by
 rintro _ h K ⟨g, p, w, n, rfl, hwo, hg, hrl, hrn, hEl, hEb, htl, hal, hn, hK⟩
 obtain ⟨F, rv, av, pd, pt, px, mk, kv, gw, gr, gd, gt, gx, gk, ga, hps, hw⟩ := hwo
 have Q0 := hps.rest hg
 refine i_fun rfl ?_
 simp only [F277, Ze, Nat.reduceSub, Nat.reduceAdd]
 refine sw0 ?_
 refine i_newO fun b3 h1 hle1 hb3 ho3 => ?_
 have ho3' : objAt h1 ⟨b3, 0, none⟩ [.slice none 0 0] := ho3.le (fr_le _ _)
 have C36 := hw.c36 ((Q0.up hle1).lt 1 rfl)
 refine sw1 @C36 ?_
 refine i_call H54 ⟨_, rfl, fun b6 h2 hle2 ho6 => ?_⟩
 obtain ⟨mw, wkv, bs, ck, hmw, hMB, hnd, hkeys⟩ := hw.tr.keys
 have hgt' := Q0.lt 4 rfl
 have hbsl : bs.length = wkv.length := by obtain ⟨_, _, _, h, _⟩ := hMB; exact h
 have hbsn : bs.Nodup := by obtain ⟨_, _, _, _, h, _⟩ := hMB; exact h
 have hwl : wkv.length = (tagsE w.E).length := by
  have e := nodup_len hnd (tagsE_nodup w.E) fun x => (hkeys x).trans (mem_tagsE w.E x).symm
  rwa [List.length_map] at e
 have hle12 := hle1.trans hle2
 refine sw0 ?_
 refine i_rfn (ek := encKS) (ev := id) (c := ⟨b6, 0, none⟩) (a := ⟨pt, 0, none⟩) (kv := wkv) (bs := bs) (ck := ck) (mp := mw) rfl ((ho6.le (fr_le _ _)).rules.2.1 (by simp)) (hmw h2 (hgt'.trans hle12))
  (fun dn G => Heap.le h G ∧ ∃ v l, objAt G ⟨b3, 0, none⟩ [v] ∧ SlB encT 1 G v l ∧ (∀ b, blkOf v = some b → h b = none ∧ b ≠ b3) ∧ GathA wkv bs dn l) ⟨hle12, .slice none 0 0, [], ho3'.le hle2, SlB.nil, by simp [blkOf], ⟨by simp, by simp, by simp⟩⟩ (fun dn G hJ => hMB.le (hgt'.trans hJ.1)) ?_ ?_
 rotate_left
 ·rintro dn G j b key val ⟨hG, v, l, hob, hSl, hvb, hga⟩ hdn hds hj hb hnb
  have hdl : dn.length ≤ bs.length := nodup_le hdn hds
  have hll := hga.2.1
  have B3 : G.cell ⟨b3, 0, none⟩ = some v := hob.rules.2.1 (by simp)
  have O1 := hSl.one
  refine sw3 @rf_rules @encKS.eq_1 @B3 ?_
  refine i_bslB encT 1 (fun _ => rfl) [key] rfl rfl (by simp [maxLen]) fun x1 b1 G3 hle4 hb1 hx1 hS3 => ?_
  have O2 := hS3.one
  refine sw4 O2.1 O2.2 O1.1 O1.2 ?_
  refine i_appB (enc := encT) (sz := 1) (g := G3) (l := l) (l' := [key]) (fun _ => rfl) (by simp [encT, one]) (hSl.le hle4) (Heap.le.refl G3) (SlB.sl (enc := encT) (fun _ => rfl) (hS3.le (fr_le _ _))) (by simp; omega) fun v4 h4 g4 hS4 St4 e1 e2 e3 => ?_
  have hob4 : objAt h4 ⟨b3, 0, none⟩ [v] := (hob.le hle4).kept fun o ho => e3 _ _ ho fun e => (hvb _ e).2 rfl
  have hb3G : G3 b3 ≠ none := by obtain ⟨_, cc, tt, q, _⟩ := hob.le hle4; rw [q]; simp
  have hvb4 : ∀ b, blkOf v4 = some b → h b = none ∧ b ≠ b3 := by
   intro b hb
   rcases e2 b hb with h5 | h5
   ·exact hvb b h5
   ·exact ⟨le_none (hG.trans hle4) b h5, fun e => hb3G (e ▸ h5)⟩
  have hG4 : Heap.le h h4 := fun b o hb => e3 b o (hle4 b o (hG b o hb)) fun e => by rw [(hvb b e).1] at hb; cases hb
  have O4 := hS4.one
  refine sw2 O4.1 O4.2 ?_
  refine i_st hob4 0 1 (by rw [O4.2]; rfl) (by rw [O4.2]; simp [O4.1]) oM (by simp) fun o7 hob8 _ => ?_
  have hob9 : objAt (h4.set b3 o7) ⟨b3, 0, none⟩ [v4] := by have := hob8 h4 rfl; simpa [O4.2] using this
  refine sw1 @rf_rules ?_
  have hb3h : h b3 = none := hb3
  exact ⟨but.le (b := b3) hG4 hb3h fun x hx => Heap.set_ne hx, v4, l ++ [key], hob9, (hS4.le St4.le).same fun b hb => Heap.set_ne (hvb4 b hb).2, hvb4, hga.take hj hb hbsn hnd hnb⟩
 rintro dn G ⟨hG, v, l, hob, hSl, hvb, hga⟩ hdn hds hall
 have hdl : dn.length ≤ bs.length := nodup_le hdn hds
 have hll : l.length ≤ 12 := by have := hga.2.1; omega
 have hmem : ∀ t, t ∈ l ↔ toldE w.E t := by
  intro t
  rw [hga.2.2 t, ← hkeys t]
  refine ⟨fun ⟨j, b, u, q1, q2, q3⟩ => List.mem_map.2 ⟨_, List.mem_of_getElem? q1, rfl⟩, fun ht => ?_⟩
  obtain ⟨⟨k, u⟩, q1, rfl⟩ := List.mem_map.1 ht
  obtain ⟨j, hj, q2⟩ := List.getElem_of_mem q1
  have hj2 : j < bs.length := oM
  exact ⟨j, bs[j], u, by rw [List.getElem?_eq_getElem hj, q2], by rw [List.getElem?_eq_getElem hj2], hall _ (List.getElem_mem hj2)⟩
 have B3 : G.cell ⟨b3, 0, none⟩ = some v := hob.rules.2.1 (by simp)
 refine sw1 @B3 ?_
 refine i_call H67 ⟨v, l, rfl, hSl, oM, fun H1 hS1 hk1 => ?_⟩
 have hsrt : srt l = tagsE w.E := ordT_ext (srt_ord hga.1) (ordT_tagsOfL _) fun t => srt_mem.trans ((hmem t).trans (mem_tagsE w.E t).symm)
 rw [hsrt] at hS1
 have hH1 : Heap.le h H1 := fun b o hb => hk1 b o (hG b o hb) fun e => by rw [(hvb b e).1] at hb; cases hb
 have hob1 : objAt H1 ⟨b3, 0, none⟩ [v] := hob.kept fun o ho => hk1 _ _ ho fun e => (hvb _ e).2 rfl
 clear hk1 hSl hob B3 hga hmem hsrt
 have hobZ : objAt (fr h H1) ⟨b3, 0, none⟩ [v] := hob1.kept fun o hb => by simp only [fr, hb3]; exact hb
 have hSZ : SlB encT 1 (fr h H1) v (tagsE w.E) := hS1.same fun b hb => by simp [fr, (hvb b hb).1]
 have Q1' := (Q0.up hH1)
 have QZ : Ps H1 [rest g h, gw, gr, gd, gt, gx, gk, ga, fr h H1] := Q0.new hH1
 have hlk : (w.lookN n 0) = [] := rfl
 have RV := hw.rs.one
 have Rr := (hw.rs.le (QZ.lt 2 rfl)).rules 6 Rl.enc_len default
 have C22 := hw.c22 (QZ.lt 1 rfl)
 refine sw4 @C22 RV.1 RV.2 @Rr ?_
 refine i_loop (fun i : Nat => [some (.pointer (some ⟨p, 0, none⟩)), some (.int .i64 (n : Nat)), some (.pointer (some ⟨b3, 0, none⟩)), none, none, none, none, none, none, none, none, none, some rv, some (.int .i64 w.rs.length), some (.int .i64 (i : Nat)), none, none, none, none, none, none, none, none, none, none, none, none])
  (fun i H => i ≤ w.rs.length ∧ ∃ F av gw ga, Ps H [rest g h, gw, gr, gd, gt, gx, gk, ga, fr h H1] ∧ WP p { w with al := w.al ++ w.lookN n i } F rv av pd pt px mk kv gw gr gd gt gx gk ga) (fun i => w.rs.length - i) 0 (by try simp only [Pf]; rfl) ⟨oM, F, av, gw, ga, QZ, by rw [hlk, List.append_nil]; exact hw⟩ ?_
 clear Rr C22 QZ hlk Q1' Q0 hps
 have hrs := hw.rs
 clear hw
 rintro i H ⟨hi, F, av, gw, ga, Q, hw⟩
 have hi1 : IntKind.i64.wrap ((i : Int) + 1) = ((i + 1 : Nat) : Int) := by rw [w64 oM oM]; omega
 have Rr := (hrs.le (Q.lt 2 rfl)).rules 6 Rl.enc_len default
 refine sw0 ?_
 refine i_cond (fun c1 => ?_) (fun c1 => ?_)
 rotate_left
 ·have : i = w.rs.length := oM
  subst this
  refine sw0 ?_
  obtain ⟨g4, q1, q2⟩ := WO.of hg (Q.take 8) hw
  exact hK g4 _ q1 q2
 have hi2 : i < w.rs.length := oM
 have hrnm := hrn _ (getD_mem default hi2)
 generalize hre : w.rs.getD i default = r at *
 refine sw3 @Rr @hre @Rl.enc.eq_1 ?_
 refine i_newO fun b5 h5 hle5 hb5 ho5 => ?_
 have hob5 := ho5.le (fr_le _ _)
 refine sw0 ?_
 refine i_st (cs := [.string (str []), .int .i64 0, .int .i64 0, .int .i64 0, .int .i64 0, .int .i64 0]) hob5 0 6 rfl rfl oM (by simp) fun o6 hob6 _ => ?_
 have hob6 : objAt (h5.set b5 o6) ⟨b5, 0, none⟩ (Rl.enc r) := hob6 h5 rfl
 have hle6 : Heap.le H (h5.set b5 o6) := but.le (b := b5) hle5 hb5 fun x hx => Heap.set_ne hx
 generalize h5.set b5 o6 = h6 at *
 have Q6 := Q.new hle6
 have hobY : objAt (fr H h6) ⟨b5, 0, none⟩ (Rl.enc r) := hob6.kept fun o hb => by simp only [fr, hb5]; exact hb
 generalize fr H h6 = Y at *
 clear ho5 hob5 hob6
 have B3 : ∀ H, Heap.le (fr h H1) H → H.cell ⟨b3, 0, none⟩ = some v := fun H hl => (hobZ.le hl).rules.2.1 (by simp)
 have RL : ∀ H, Heap.le (fr h H1) H → _ := fun H hl => (SlB.sl (enc := encT) (sz := 1) (fun _ => rfl) (hSZ.le hl)).rules1 (fun t => .string (str t)) (fun _ => rfl) default
 have B36 := B3 h6 (Q6.lt 8 rfl)
 have RL6 := RL h6 (Q6.lt 8 rfl)
 have hlr0 : w.lookR n i ((tagsE w.E).take 0) = [] := rfl
 have hlN := w.lookN_len n i
 have hlN6 : i * (tagsE w.E).length ≤ 6 * 12 := Nat.mul_le_mul oM htl
 refine sw2 @B36 @RL6 ?_
 refine i_loop (fun k : Nat => [some (.pointer (some ⟨p, 0, none⟩)), some (.int .i64 (n : Nat)), some (.pointer (some ⟨b3, 0, none⟩)), none, some (.int .i64 (i : Nat)), some (.pointer (some ⟨b5, 0, none⟩)), none, none, none, none, none, none, some rv, some (.int .i64 w.rs.length), some (.int .i64 (i : Nat)), none, none, none, some v, some (.int .i64 (tagsE w.E).length), some (.int .i64 (k : Nat)), none, none, none, none, none, none])
  (fun k H => k ≤ (tagsE w.E).length ∧ ∃ F av gw ga, Ps H [rest g h, gw, gr, gd, gt, gx, gk, ga, fr h H1, Y] ∧ WP p { w with al := w.al ++ w.lookN n i ++ w.lookR n i ((tagsE w.E).take k) } F rv av pd pt px mk kv gw gr gd gt gx gk ga) (fun k => (tagsE w.E).length - k) 0 (by try simp only [Pf]; rfl) ⟨oM, F, av, gw, ga, Q6, by rw [hlr0, List.append_nil]; exact hw⟩ ?_
 clear hw Q6 RL6 B36 Q Rr hlr0 hle5 hle6
 rintro k H' ⟨hk, F, av, gw, ga, Q, hw⟩
 have hk1 : IntKind.i64.wrap ((k : Int) + 1) = ((k + 1 : Nat) : Int) := by rw [w64 oM oM]; omega
 have RLk := RL H' (Q.lt 8 rfl)
 refine sw0 ?_
 refine i_cond (fun c2 => ?_) (fun c2 => ?_)
 rotate_left
 ·have : k = (tagsE w.E).length := oM
  subst this
  rw [List.take_length, List.append_assoc, ← Wa.lookN_succ] at hw
  refine sw1 @hi1 ?_
  exact k_loop (i + 1) oM sE ⟨oM, F, av, gw, ga, Q.take 9, hw⟩
 have hk2 : k < (tagsE w.E).length := oM
 have hnr : (tagsE w.E).take (k + 1) = (tagsE w.E).take k ++ [(tagsE w.E).getD k default] := take_succ_d default hk2
 have hlR := w.lookR_len n i ((tagsE w.E).take k)
 rw [List.length_take] at hlR
 generalize hte : (tagsE w.E).getD k default = t at *
 have C36 := hw.c36 (Q.lt 1 rfl)
 have RW := (hobY.le (Q.lt 9 rfl)).rules.2.2
 simp only [Rl.enc, List.length_cons, List.length_nil, Nat.reduceAdd] at RW
 refine sw4 @RLk @hte @C36 @RW ?_
 refine i_call H174 ⟨gt, pt, _, _, w.E, r, t, n, rfl, hw.tr, Q.lt 4 rfl, hEl, oM, oM, fun h7 hle7 => ?_⟩
 have Q7 := Q.up hle7
 have hlq : w.lookR n i ((tagsE w.E).take (k + 1)) = w.lookR n i ((tagsE w.E).take k) ++ if holdR (w.c 2).toNat (w.c 3).toNat w.E r t n then [⟨i, n, t⟩] else [] := by
  unfold Wa.lookR
  rw [hnr, List.filter_append, List.map_append, hre]
  congr 1
  by_cases e : holdR (w.c 2).toNat (w.c 3).toNat w.E r t n <;> simp [e]
 refine sw0 ?_
 cases c3 : holdR (w.c 2).toNat (w.c 3).toNat w.E r t n
 ·rw [c3, if_neg (by simp), List.append_nil] at hlq
  refine sw1 @hk1 ?_
  exact k_loop (k + 1) oM sE ⟨oM, F, av, gw, ga, Q7, by rw [hlq]; exact hw⟩
 rw [c3, if_pos rfl] at hlq
 have C44 := hw.c44 (Q7.lt 1 rfl)
 have OA := hw.al.one
 refine sw1 @C44 ?_
 refine i_bslB encAl 3 encAl_len [⟨i, n, t⟩] (by simp [encAl]) rfl (by simp [maxLen]) fun x1 b1 h8 hle8 hb1 hx1 hS3 => ?_
 have Q8 := Q7.up hle8
 have O2 := hS3.one
 refine sw4 O2.1 O2.2 OA.1 OA.2 ?_
 refine i_appB (enc := encAl) (sz := 3) (g := ga) (l' := [⟨i, n, t⟩]) encAl_len (by simp [encAl, one]) hw.al (Q8.lt 7 rfl) (SlB.sl encAl_len (hS3.le (fr_le _ _))) (by simp; omega) fun v9 h9 ga9 hS9 St9 e1 e2 e3 => ?_
 have Q9 := Q8.step 7 rfl St9
 have O9 := hS9.one
 refine sw2 O9.1 O9.2 ?_
 refine i_stF (x := v9) hw.ob (Q9.lt 1 rfl) 44 O9.2 O9.1 oM fun g10 h10 st10 ho10 => ?_
 have Q10 := Q9.step 1 rfl st10
 refine sw1 @hk1 ?_
 refine k_loop (k + 1) oM sE ⟨oM, upF F 44 v9, v9, g10, ga9, Q10, ?_⟩
 have := hw.wf.al (w.al ++ w.lookN n i ++ w.lookR n i ((tagsE w.E).take (k + 1))) v9
 rw [hlq, ← List.append_assoc] at this ⊢
 exact { hw with ob := ho10, wf := this, al := hS9 }
def Wa.tell (w : Wa) (x : Nat × List Si) : Wa :=
 let w1 : Wa := { w with E := w.E ++ [x.2] }
 { w1 with al := w1.al ++ w1.look x.1 }
def Wa.closed (w : Wa) (m : Nat) : List (Nat × List Si) := closE (w.c 0).toNat (w.c 1).toNat w.now (w.now + m) w.A
def Wa.tick (w : Wa) (m : Nat) : Wa := (w.closed m).foldl Wa.tell { w with now := w.now + m }
structure Wa.Mid (w : Wa) : Prop where
 rl : w.rs.length ≤ 6
 rf : ∀ r ∈ w.rs, ruleF r = 0
 kn : w.kn.length ≤ 12
 knn : w.kn.Nodup
 Eb : ∀ l ∈ w.E, l.length ≤ 2000 ∧ ∀ s ∈ l, ¬ adBad 1000 s ∧ s.tag ∈ w.kn ∧ kindOf s.tag ≠ 0
 al : w.al.length ≤ 100 * w.E.length
theorem Wa.Ok.mid {w : Wa} {fed : Nat} (h : w.Ok fed) (n : Nat) : ({ w with now := n } : Wa).Mid := ⟨h.rl, h.rf, h.kn, h.knn, h.Eb, h.al⟩
theorem nodup_leT {l m : List (List UInt8)} (h : l.Nodup) (hs : ∀ x ∈ l, x ∈ m) : l.length ≤ m.length := by
 induction l generalizing m with
 | nil => simp
 | cons a l ih =>
  obtain ⟨h1, h2⟩ := List.nodup_cons.1 h
  have hm := hs a (by simp)
  have := ih (m := m.erase a) h2 fun x hx => (List.mem_erase_of_ne (by rintro rfl; exact h1 hx)).2 (hs x (by simp [hx]))
  rw [List.length_erase_of_mem hm] at this
  have : 0 < m.length := List.length_pos_of_mem hm
  simp; omega
theorem Wa.Mid.tags {w : Wa} (h : w.Mid) : (tagsE w.E).length ≤ 12 := by
 refine Nat.le_trans (nodup_leT (tagsE_nodup w.E) fun t ht => ?_) h.kn
 obtain ⟨l, hl, s, hs, rfl⟩ := (mem_tagsE w.E t).1 ht
 exact ((h.Eb l hl).2 s hs).2.1
theorem Wa.Mid.add {w : Wa} (h : w.Mid) {l : List Si} (hl : l.length ≤ 2000 ∧ ∀ s ∈ l, ¬ adBad 1000 s ∧ s.tag ∈ w.kn ∧ kindOf s.tag ≠ 0) : ({ w with E := w.E ++ [l] } : Wa).Mid :=
 ⟨h.rl, h.rf, h.kn, h.knn, fun l' hl' => by
  rcases List.mem_append.1 hl' with e | e
  ·exact h.Eb l' e
  ·rw [List.mem_singleton.1 e]; exact hl, by have := h.al; simp; omega⟩
theorem Wa.look_len {w : Wa} (h : w.Mid) (n : Nat) : (w.look n).length ≤ 72 := by
 have h1 := w.lookN_len n w.rs.length
 have h2 : w.rs.length * (tagsE w.E).length ≤ 6 * 12 := Nat.mul_le_mul h.rl h.tags
 unfold Wa.look; omega
theorem Wa.Mid.tell {w : Wa} (h : w.Mid) {x : Nat × List Si} (hl : x.2.length ≤ 2000 ∧ ∀ s ∈ x.2, ¬ adBad 1000 s ∧ s.tag ∈ w.kn ∧ kindOf s.tag ≠ 0) : (w.tell x).Mid := by
 have h1 := h.add hl
 have h2 := Wa.look_len h1 x.1
 have h3 := h.al
 exact ⟨h1.rl, h1.rf, h1.kn, h1.knn, h1.Eb, by unfold Wa.tell; simp only [List.length_append, List.length_singleton]; omega⟩
theorem Wa.tells (L : List (Nat × List Si)) : ∀ (w : Wa), L.foldl Wa.tell w = { w with E := w.E ++ L.map (·.2), al := (L.foldl Wa.tell w).al } := by
 induction L with
 | nil => intro w; simp
 | cons x L ih => intro w; rw [List.foldl_cons, ih]; simp [Wa.tell]
theorem Wa.Mid.tells {L : List (Nat × List Si)} : ∀ {w : Wa}, w.Mid → (∀ x ∈ L, x.2.length ≤ 2000 ∧ ∀ s ∈ x.2, ¬ adBad 1000 s ∧ s.tag ∈ w.kn ∧ kindOf s.tag ≠ 0) → (L.foldl Wa.tell w).Mid := by
 induction L with
 | nil => intro w h _; exact h
 | cons x L ih => intro w h hL; exact ih (h.tell (hL x (by simp))) fun y hy => hL y (List.mem_cons_of_mem _ hy)
theorem mem_ofE {size : Nat} {A : List Si} {n : Nat} {s : Si} : s ∈ ofE size A n ↔ s ∈ A ∧ ep size s = n := by
 unfold ofE
 rw [(ofL_ord _).2.mem_iff]; simp
theorem Wa.Ok.closed {w : Wa} {fed : Nat} (h : w.Ok fed) (hf : fed ≤ 20000) {m : Nat} : ∀ x ∈ w.closed m, x.2.length ≤ 2000 ∧ ∀ s ∈ x.2, ¬ adBad 1000 s ∧ s.tag ∈ w.kn ∧ kindOf s.tag ≠ 0 := by
 intro x hx
 unfold Wa.closed closE at hx
 obtain ⟨k, hk, rfl⟩ := List.mem_map.1 hx
 refine ⟨?_, fun s hs => h.Ab s (mem_ofE.1 hs).1⟩
 unfold ofE
 rw [ofL_len]
 have h1 := List.length_filter_le (fun s => decide (ep (w.c 0).toNat s = k)) w.A
 have h2 := h.sum
 omega
theorem clos_mono {size late a b : Nat} (h : a ≤ b) : clos size late a ≤ clos size late b := Nat.div_le_div_right oM
theorem Wa.closed_len {w : Wa} {m : Nat} : (w.closed m).length = clos (w.c 0).toNat (w.c 1).toNat (w.now + m) - clos (w.c 0).toNat (w.c 1).toNat w.now := by simp [Wa.closed, closE]
theorem Wa.Ok.tick {w : Wa} {fed m : Nat} (h : w.Ok fed) (hf : fed ≤ 20000) (hm : w.now + m ≤ 1000) : (w.tick m).Ok fed := by
 have h1 := (h.mid (w.now + m)).tells (L := w.closed m) (h.closed hf)
 have h2 := Wa.tells (w.closed m) { w with now := w.now + m }
 unfold Wa.tick
 rw [h2] at h1 ⊢
 refine ⟨h.c0, h.c1, h.c2, h.c3, h.c4, h.c5, h.wh, h.rl, h.rf, hm, h.sum, h.d0, h.kn, h.knn, h.Ab, ?_, h1.Eb, h1.al⟩
 have h3 := clos_mono (size := (w.c 0).toNat) (late := (w.c 1).toNat) (show w.now ≤ w.now + m by omega)
 simp only [List.length_append, List.length_map, Wa.closed_len, h.El]
 omega
theorem clos_le1000 {size late now : Nat} (hn : now ≤ 1000) : clos size late now ≤ 1000 := Nat.le_trans (Nat.div_le_self _ _) oM
theorem rest_n {g h : Heap} {b : Nat} (e : g b = none) : rest g h b = h b := by unfold rest; rw [if_pos e]
theorem rest_s {g h : Heap} {b : Nat} (e : g b ≠ none) : rest g h b = none := by unfold rest; rw [if_neg e]
theorem Ps.pack {H F Y : Heap} {gs : List Heap} (h : Ps H (F :: (gs ++ [Y]))) : Ps H [F, joinL gs, Y] := by
 obtain ⟨h1, h2⟩ := h
 obtain ⟨h3, h4⟩ := List.pairwise_cons.1 h2
 obtain ⟨h5, h6, h7⟩ := List.pairwise_append.1 h4
 refine ⟨fun x hx => ?_, ?_⟩
 ·simp only [List.mem_cons, List.not_mem_nil, or_false] at hx
  rcases hx with rfl | rfl | rfl
  ·exact h1 _ (by simp)
  ·exact joinL_le fun y hy => h1 y (by simp [hy])
  ·exact h1 _ (by simp)
 ·refine List.pairwise_cons.2 ⟨fun x hx => ?_, List.pairwise_cons.2 ⟨fun x hx => ?_, List.pairwise_singleton _ _⟩⟩
  ·simp only [List.mem_cons, List.not_mem_nil, or_false] at hx
   rcases hx with rfl | rfl
   ·exact fun b hb => joinL_none fun y hy => h3 y (by simp [hy]) b hb
   ·exact h3 _ (by simp)
  ·rw [List.mem_singleton] at hx; subst hx
   intro b hb
   obtain ⟨y, hy, hyb⟩ := joinL_mem hb
   exact h7 y hy _ (by simp) b hyb
def S269 (N : Num) : Spec := fun args h K => ∃ g p w fed, ∃ n : Int, args = [.pointer (some ⟨p, 0, none⟩), .int .i64 n] ∧ WO g p w ∧ Heap.le g h ∧ w.Ok fed ∧ fed ≤ 20000 ∧
 ((n < 0 ∨ 1000 - (w.now : Int) < n) → K (.tuple #[.int .i64 0, errV N 1]) h) ∧
 (∀ m : Nat, n = m → w.now + m ≤ 1000 → ∀ g' h', Step g h g' h' → WO g' p (w.tick m) → K (.tuple #[.int .i64 ((w.closed m).length : Nat), .nilIface]) h')
theorem bad_of {s : Si} (h : ¬ adBad 1000 s) : ¬ s.bad := by
 unfold adBad at h; unfold Si.bad; omega
theorem EpsR.len {h : Heap} {v : Value} {L : List (Nat × List Si)} (a : EpsR h v L) : ∃ es : List (Nat × Value), Sl encEp h v es ∧ es.length = L.length ∧ ∀ i, i < L.length → (es.getD i default).1 = (L.getD i default).1 ∧ Sl Si.enc h (es.getD i default).2 (L.getD i default).2 := a
theorem F269_ok {N : Num} {Γ : Ctx} [GoodC Γ] (H34 : Sat (S34 N) (Γ 34)) (H29 : Sat (S29 N) (Γ 29)) (H46 : Sat S46 (Γ 46)) (H277 : Sat S277 (Γ 277)) : Sat (S269 N) (SF N Γ F269) := by
 rintro _ h K ⟨g, p, w, fed, n, rfl, hwo, hg, hok, hfed, hK1, hK2⟩
 obtain ⟨F, rv, av, pd, pt, px, mk, kv, gw, gr, gd, gt, gx, gk, ga, hps, hw⟩ := hwo
 have Q0 := hps.rest hg
 have hc0 := hok.c0
 have hc1 := hok.c1
 have hc2 := hok.c2
 have hc3 := hok.c3
 have hc4 := hok.c4
 have hc5 := hok.c5
 have hnow := hok.now
 have hA9 : w.A.length ≤ 1818 := by have := hok.sum; omega
 refine i_fun rfl ?_
 simp only [F269, Ze, Nat.reduceSub, Nat.reduceAdd]
 have C35 := hw.c35 (Q0.lt 1 rfl)
 refine sw1 @C35 ?_
 refine i_call H34 ⟨gd, pd, n, _, _, _, _, rfl, hw.dk, Q0.lt 3 rfl, oM, oM, oM, oM, oM, fun hbad => ?_, fun m hm hmn gd' h1 v st1 hD1 hO1 => ?_⟩
 ·have := hK1 hbad
  refine sw1 @errV_succ ?_
  exact this
 have hK := hK2 m hm hmn
 clear hK1 hK2
 have Q1 := Q0.step 3 rfl st1
 have hOY := (hO1.step (Gf' := fun _ => none) (H' := rest (join (rest gd h) gd') h1) (fun b o hb hn => by rw [rest_n hn]; exact hb) fun _ _ _ => rfl).epsR
 have hYd : ∀ x ∈ [rest g h, gw, gr, gd', gt, gx, gk, ga], disj x (rest (join (rest gd h) gd') h1) := by
  intro x hx b hb
  have : join (rest gd h) gd' b ≠ none := by
   by_cases e : x = gd'
   ·subst e
    cases e2 : rest gd h b with
    | some o => simp [join, e2]
    | none => simp [join, e2]; simpa using hb
   ·have hx2 : ∃ j, j ≠ 3 ∧ [rest g h, gw, gr, gd, gt, gx, gk, ga][j]? = some x := by
     simp only [List.mem_cons, List.not_mem_nil, or_false] at hx
     rcases hx with rfl | rfl | rfl | rfl | rfl | rfl | rfl | rfl
     ·exact ⟨0, oM, rfl⟩
     ·exact ⟨1, oM, rfl⟩
     ·exact ⟨2, oM, rfl⟩
     ·exact absurd rfl e
     ·exact ⟨4, oM, rfl⟩
     ·exact ⟨5, oM, rfl⟩
     ·exact ⟨6, oM, rfl⟩
     ·exact ⟨7, oM, rfl⟩
    obtain ⟨j, hj, hx3⟩ := hx2
    have h3 := Q0.dj j 3 hx3 rfl hj b hb
    have h4 : h b ≠ none := fun e => hb (le_none (Q0.lt j hx3) b e)
    cases e2 : h b with
    | none => exact absurd e2 h4
    | some o => simp [join, rest_n h3, e2]
  exact rest_s this
 have QY := Q1.add (rest_le _ _) hYd
 have hOY' : ∃ Y, Y = rest (join (rest gd h) gd') h1 := ⟨_, rfl⟩
 obtain ⟨Y, hY⟩ := hOY'
 simp only [List.set] at QY
 rw [← hY] at hOY QY
 obtain ⟨g1, st1', hwo1⟩ : ∃ g1, Ps h1 [rest g h, g1, Y] ∧ WO g1 p { w with now := w.now + m } := by
  refine ⟨joinL [gw, gr, gd', gt, gx, gk, ga], ?_, F, rv, av, pd, pt, px, mk, kv, gw, gr, gd', gt, gx, gk, ga, (Q1.drop 1).sub, { hw with wf := hw.wf.same rfl rfl rfl rfl, dk := hD1 }⟩
  have Q2 : Ps h1 [rest g h, gw, gr, gd', gt, gx, gk, ga, Y] := QY
  exact Q2.pack (gs := [gw, gr, gd', gt, gx, gk, ga])
 obtain ⟨es, hes, hel, hee⟩ := hOY
 have hcl := hok.closed hfed (m := m)
 have hcn := w.closed_len (m := m)
 have hcm := clos_mono (size := (w.c 0).toNat) (late := (w.c 1).toNat) (show w.now ≤ w.now + m by omega)
 have hc9 : clos (w.c 0).toNat (w.c 1).toNat (w.now + m) ≤ 1000 := clos_le1000 hmn
 have hEl := hok.El
 have hmid := hok.mid (w.now + m)
 change ∀ i, i < (w.closed m).length → (es.getD i default).1 = ((w.closed m).getD i default).1 ∧ Sl Si.enc Y (es.getD i default).2 ((w.closed m).getD i default).2 at hee
 change es.length = (w.closed m).length at hel
 unfold Wa.tick at hK
 have hcd : ∀ x ∈ w.closed m, x.1 ≤ 1000 := by
  intro x hx
  unfold Wa.closed closE at hx
  obtain ⟨k, hk, rfl⟩ := List.mem_map.1 hx
  rw [List.mem_range'_1] at hk
  dsimp only; omega
 generalize w.closed m = L at *
 have R := (hes.le (st1'.lt 2 rfl)).rules 2 encEp_len default
 have hvo := hes.one
 rw [hel] at R
 clear QY hYd Q1 Q0 hps hw
 refine sw1 @R ?_
 refine i_loop (fun i : Nat => [some (.pointer (some ⟨p, 0, none⟩)), none, none, none, some v, none, none, none, none, some v, some (.int .i64 L.length), some (.int .i64 (i : Nat)), none, none, none, none])
  (fun i H => i ≤ L.length ∧ ∃ gW, Ps H [rest g h, gW, Y] ∧ WO gW p ((L.take i).foldl Wa.tell { w with now := w.now + m })) (fun i => L.length - i) 0 (by try simp only [Pf]; rfl) ⟨oM, g1, st1', hwo1⟩ ?_
 clear hwo1 st1' R
 rintro i H ⟨hi, gW, Q, hW⟩
 have hi1 : IntKind.i64.wrap ((i : Int) + 1) = ((i + 1 : Nat) : Int) := by rw [w64 oM oM]; omega
 have R := (hes.le (Q.lt 2 rfl)).rules 2 encEp_len default
 rw [hel] at R
 refine sw0 ?_
 refine i_cond (fun c1 => ?_) (fun c1 => ?_)
 rotate_left
 ·have : i = L.length := oM
  subst this
  rw [List.take_length] at hW
  refine sw1 @R ?_
  exact hK _ _ (Q.step1 hg) hW
 have hi2 : i < L.length := oM
 obtain ⟨e1, e2⟩ := hee i hi2
 have hnx : L.take (i + 1) = L.take i ++ [L.getD i default] := take_succ_d default hi2
 have hcx := hcl _ (getD_mem default hi2)
 have hcx2 := hcd _ (getD_mem default hi2)
 have hmi := hmid.tells (L := L.take i) fun x hx => hcl x (List.mem_of_mem_take hx)
 have htf := Wa.tells (L.take i) { w with now := w.now + m }
 generalize hfe : L.getD i default = x at *
 generalize hre : es.getD i default = y at *
 have hyo := e2.one
 generalize hw2 : (L.take i).foldl Wa.tell { w with now := w.now + m } = w2 at *
 have hE2 : w2.E = w.E ++ (L.take i).map (·.2) := by rw [htf]
 have hE2l : w2.E.length ≤ 999 := by rw [hE2, List.length_append, List.length_map, List.length_take]; omega
 have f0 : w2.c = w.c := by rw [htf]
 have f1 : w2.kn = w.kn := by rw [htf]
 clear htf
 obtain ⟨F, rv, av, pd, pt, px, mk, kv, gw, gr, gd, gt, gx, gk, ga, hps, hw⟩ := hW
 have V0 := hps.rest (Q.lt 1 rfl)
 have C36 := hw.c36 (V0.lt 1 rfl)
 have C37 := hw.c37 (V0.lt 1 rfl)
 refine sw6 @R @hre @encEp.eq_1 hyo.1 hyo.2 @C36 ?_
 refine i_call H29 ⟨pt, y.2, x.2, gt, _, _, w2.E, rfl, e2.le (Q.lt 2 rfl), hw.tr, V0.lt 4 rfl, ⟨by rw [f0]; omega, by rw [f0]; omega, oM, fun l hl => ⟨fun s hs => bad_of ((hmi.Eb l hl).2 s hs).1, by have := (hmi.Eb l hl).1; omega⟩⟩, oM, oM, fun hb => ?_, fun hb h3 gt3 st3 hT3 => ?_⟩
 ·obtain ⟨s, hs, hsb⟩ := hb
  exact absurd hsb (bad_of (hcx.2 s hs).1)
 have V3 := V0.step 4 rfl st3
 have C37' := hw.c37 (V3.lt 1 rfl)
 refine sw1 @C37' ?_
 refine i_call H46 ⟨gx, gt3, px, pt, _, _, w2.E ++ [x.2], _, _, w2.E.length, rfl, hw.ix.more, V3.lt 5 rfl, hT3, V3.lt 4 rfl, V3.dj 4 5 rfl rfl oM, by rw [f0]; omega, by simp; omega, fun l hl => ?_, by rw [f0]; omega, by rw [f0]; omega, by rw [f0]; omega, by rw [f0]; omega, fun hn => by simp at hn, fun _ gx4 h4 st4 hX4 => ?_⟩
 ·rcases List.mem_append.1 hl with e | e
  ·exact (hmi.Eb l e).1
  ·rw [List.mem_singleton.1 e]; exact hcx.1
 have V4 := V3.step 5 rfl st4
 obtain ⟨g5, st5, hW5⟩ := WO.of (w := { w2 with E := w2.E ++ [x.2] }) (Q.lt 1 rfl) V4 { ob := hw.ob, wf := hw.wf.same rfl rfl rfl rfl, rs := hw.rs, dk := hw.dk, tr := hT3, ix := by simpa using hX4, km := hw.km, kn := hw.kn, al := hw.al }
 have Q5 := Q.step 1 rfl st5
 have hm5 := hmi.add (l := x.2) (by rw [f1]; exact hcx)
 refine sw0 ?_
 rw [e1]
 refine i_call H277 ⟨g5, p, _, x.1, rfl, hW5, Q5.lt 1 rfl, hm5.rl, fun r hr => ?_, by simp; omega, fun l hl => (hm5.Eb l hl).1, hm5.tags, by have := hmi.al; simp; omega, hcx2, fun g6 h6 st6 hW6 => ?_⟩
 ·have := ruleF_zero.1 (hm5.rf r hr)
  have := this.1.2.1
  omega
 have Q6 := Q5.step 1 rfl st6
 refine sw1 @hi1 ?_
 exact k_loop (i + 1) oM sE ⟨oM, g6, Q6, by rw [hnx, List.foldl_append, hw2]; exact hW6⟩
def aggC (c : Nat → Int) : Value := .agg #[.int .i64 (c 0), .int .i64 (c 1), .int .i64 (c 2), .int .i64 (c 3), .int .i64 (c 4), .int .i64 (c 5), .int .i64 (c 6), .int .i64 (c 7), .int .i64 (c 8), .int .i64 (c 9), .int .i64 (c 10), .int .i64 (c 11), .int .i64 (c 12), .int .i64 (c 13), .int .i64 (c 14), .int .i64 (c 15), .int .i64 (c 16), .int .i64 (c 17), .int .i64 (c 18), .int .i64 (c 19), .int .i64 (c 20), .int .i64 (c 21)]
instance (c : Nat → Int) : Decidable (cfgBad c) := by unfold cfgBad; infer_instance
def whBad (c : Nat → Int) : Bool := (List.range 16).any fun k => decide (c (6 + k) < -1 ∨ 7 < c (6 + k))
def rulesF (seen : List (List UInt8)) : List Rl → Nat
 | [] => 0
 | r :: l => if ruleF r ≠ 0 then ruleF r else if r.name ∈ seen then 7 else rulesF (seen ++ [r.name]) l
theorem rulesF_cons (seen : List (List UInt8)) (r : Rl) (l : List Rl) : rulesF seen (r :: l) = if ruleF r ≠ 0 then ruleF r else if r.name ∈ seen then 7 else rulesF (seen ++ [r.name]) l := rfl
def watchF (c : Nat → Int) (rs : List Rl) : Nat := if cfgBad c then 1 else if whBad c then 1 else if 6 < rs.length then 2 else rulesF [] rs
def newW (c : Nat → Int) (rs : List Rl) : Wa := ⟨c, rs, fun _ => ([], 0), fun _ => -1, fun _ => 0, [], 0, [], [], []⟩
def S266 (N : Num) : Spec := fun args h K => ∃ c rv rs, args = [aggC c, rv] ∧ Sl Rl.enc h rv rs ∧ rs.length ≤ 100000 ∧ (∀ r ∈ rs, r.name.length ≤ 10000000) ∧
 (watchF c rs ≠ 0 → ∀ h', Heap.le h h' → K (.tuple #[.pointer none, errV N (watchF c rs)]) h') ∧
 (watchF c rs = 0 → ∀ p g' h', Step (fun _ => none) h g' h' → WO g' p (newW c rs) → K (.tuple #[.pointer (some ⟨p, 0, none⟩), .nilIface]) h')
def newF (c : Nat → Int) (rv : Value) (mk : Nat) : Nat → Value := fun j => ([Value.int .i64 (c 0), .int .i64 (c 1), .int .i64 (c 2), .int .i64 (c 3), .int .i64 (c 4), .int .i64 (c 5), .int .i64 (c 6), .int .i64 (c 7), .int .i64 (c 8), .int .i64 (c 9), .int .i64 (c 10), .int .i64 (c 11), .int .i64 (c 12), .int .i64 (c 13), .int .i64 (c 14), .int .i64 (c 15), .int .i64 (c 16), .int .i64 (c 17), .int .i64 (c 18), .int .i64 (c 19), .int .i64 (c 20), .int .i64 (c 21), rv, .string (str []), .int .i64 0, .string (str []), .int .i64 0, .string (str []), .int .i64 0, .string (str []), .int .i64 0, .int .i64 (-1), .int .i64 (-1), .int .i64 (-1), .int .i64 (-1), .pointer none, .pointer none, .pointer none, .map (some mk), .int .i64 0, .int .i64 0, .int .i64 0, .int .i64 0, .int .i64 0, .slice none 0 0] : List Value).getD j default
theorem vidxn_c (c : Nat → Int) (H : Heap) {i : Nat} (hi : i < 4) : o2V H (.vidxn 4 4) (.v (.agg #[.int .i64 (c 6), .int .i64 (c 7), .int .i64 (c 8), .int .i64 (c 9), .int .i64 (c 10), .int .i64 (c 11), .int .i64 (c 12), .int .i64 (c 13), .int .i64 (c 14), .int .i64 (c 15), .int .i64 (c 16), .int .i64 (c 17), .int .i64 (c 18), .int .i64 (c 19), .int .i64 (c 20), .int .i64 (c 21)])) (.v (.int .i64 (i : Nat))) =
  some (.v (.agg #[.int .i64 (c (6 + 4 * i)), .int .i64 (c (6 + (4 * i + 1))), .int .i64 (c (6 + (4 * i + 2))), .int .i64 (c (6 + (4 * i + 3)))])) := by
 rcases (by omega : i = 0 ∨ i = 1 ∨ i = 2 ∨ i = 3) with rfl | rfl | rfl | rfl <;> rfl
theorem vidx_c (x0 x1 x2 x3 : Int) (f : Nat → Int) (h0 : f 0 = x0) (h1 : f 1 = x1) (h2 : f 2 = x2) (h3 : f 3 = x3) {j : Nat} (hj : j < 4) : (#[Value.int .i64 x0, .int .i64 x1, .int .i64 x2, .int .i64 x3] : Array Value)[j]? = some (.int .i64 (f j)) := by
 subst h0 h1 h2 h3
 rcases (by omega : j = 0 ∨ j = 1 ∨ j = 2 ∨ j = 3) with rfl | rfl | rfl | rfl <;> rfl
theorem WF.newW (c : Nat → Int) (rs : List Rl) (rv : Value) (mk pd pt px : Nat) : WF (upF (upF (upF (newF c rv mk) 35 (.pointer (some ⟨pd, 0, none⟩))) 36 (.pointer (some ⟨pt, 0, none⟩))) 37 (.pointer (some ⟨px, 0, none⟩))) (newW c rs) rv pd pt px mk (.slice none 0 0) where
 c := fun k hk => by
  rw [upF_ne oM, upF_ne oM, upF_ne oM]
  rcases (by omega : k = 0 ∨ k = 1 ∨ k = 2 ∨ k = 3 ∨ k = 4 ∨ k = 5 ∨ k = 6 ∨ k = 7 ∨ k = 8 ∨ k = 9 ∨ k = 10 ∨ k = 11 ∨ k = 12 ∨ k = 13 ∨ k = 14 ∨ k = 15 ∨ k = 16 ∨ k = 17 ∨ k = 18 ∨ k = 19 ∨ k = 20 ∨ k = 21) with rfl | rfl | rfl | rfl | rfl | rfl | rfl | rfl | rfl | rfl | rfl | rfl | rfl | rfl | rfl | rfl | rfl | rfl | rfl | rfl | rfl | rfl <;> rfl
 r := rfl
 l1 := fun k hk => by rcases (by omega : k = 0 ∨ k = 1 ∨ k = 2 ∨ k = 3) with rfl | rfl | rfl | rfl <;> rfl
 l2 := fun k hk => by rcases (by omega : k = 0 ∨ k = 1 ∨ k = 2 ∨ k = 3) with rfl | rfl | rfl | rfl <;> rfl
 wm := fun k hk => by rcases (by omega : k = 0 ∨ k = 1 ∨ k = 2 ∨ k = 3) with rfl | rfl | rfl | rfl <;> rfl
 d := rfl
 t := rfl
 x := rfl
 k := rfl
 dr := fun k hk => by rcases (by omega : k = 0 ∨ k = 1 ∨ k = 2 ∨ k = 3 ∨ k = 4) with rfl | rfl | rfl | rfl | rfl <;> rfl
 a := rfl
theorem Ps.one (h : Heap) : Ps h [h] := ⟨fun g hg => by rw [List.mem_singleton.1 hg]; exact Heap.le.refl h, List.pairwise_singleton _ _⟩
theorem Ps.perm {H : Heap} {gs gs' : List Heap} (h : Ps H gs) (hp : gs.Perm gs') : Ps H gs' :=
 ⟨fun g hg => h.1 g (hp.mem_iff.2 hg), (hp.pairwise_iff fun {x y} (a : disj x y) => a.symm).1 h.2⟩
theorem F266_ok {N : Num} {Γ : Ctx} [GoodC Γ] (H33 : Sat (S33 N) (Γ 33)) (H28 : Sat (S28 N) (Γ 28)) (H44 : Sat (S44 N) (Γ 44)) (H170 : Sat (S170 N) (Γ 170)) : Sat (S266 N) (SF N Γ F266) := by
 rintro _ h K ⟨c, rv, rs, rfl, hrs, hrl, hrn, hK1, hK2⟩
 refine i_fun rfl ?_
 simp only [F266, Ze, Nat.reduceSub, Nat.reduceAdd, aggC]
 refine sw0 ?_
 refine i_meet_alt (fun env H => ∃ p rv' mk gw gr gk, Ps H [h, gr, gk, gw] ∧ objF gw p 45 (newF c rv' mk) ∧ Sl Rl.enc gr rv' rs ∧ MapB encKS encBv gk mk [] [] 0 ∧
  env = [some (aggC c), some rv, some (aggC c), none, none, some (.pointer (some ⟨p, 0, none⟩)), none, none, none, none, none, none, none, none, none, none, none, none, none, none, none, none, none, none, none, none, none, none, none, none, none, none, none, none, none, none, none, none, none, none, none, none, none, none, none, none, none]) ?_ ?_
 rotate_left
 ·refine i_alt ?_ ?_
  ·refine sw0 ?_
   refine i_app Rl.enc_len (fun _ => rfl) (OwnS.nil (Heap.le.refl h)) hrs (by simp only [List.length_nil]; omega) fun v1 h1 ho1 => ?_
   refine sw0 ?_
   refine i_le (le_one ho1.1) ?_
   refine sw0 ?_
   refine i_mnew (ek := encKS) (ev := encBv) fun m h2 hm hle2 hmb => ?_
   refine sw0 ?_
   refine i_lew (le_one (ho1.1.trans hle2)) ?_
   have OV := ho1.one
   refine sw2 OV.1 OV.2 ?_
   refine i_newO fun p h3 hle3 hp hob => ?_
   refine sw0 ?_
   exact k_meet _ (by try simp only [Pf]; rfl) ⟨p, v1, m, _, _, _, (((Ps.one h).new ho1.1).new hle2).new hle3, hob, ho1.slf Rl.enc_len, hmb, rfl⟩
  ·refine sw0 ?_
   refine i_mnew (ek := encKS) (ev := encBv) fun m h1 hm hle1 hmb => ?_
   refine sw0 ?_
   refine i_le (le_one hle1) ?_
   refine sw0 ?_
   refine i_app Rl.enc_len (fun _ => rfl) (OwnS.nil (Heap.le.refl h1)) (hrs.le hle1) (by simp only [List.length_nil]; omega) fun v1 h2 ho1 => ?_
   have OV := ho1.one
   refine sw0 ?_
   refine i_lew (le_one (hle1.trans ho1.1)) ?_
   refine sw2 OV.1 OV.2 ?_
   refine i_newO fun p h3 hle3 hp hob => ?_
   refine sw0 ?_
   exact k_meet _ (by try simp only [Pf]; rfl) ⟨p, v1, m, _, _, _, ((((Ps.one h).new hle1).new ho1.1).new hle3).perm (List.Perm.cons _ (List.Perm.swap _ _ _)), hob, ho1.slf Rl.enc_len, hmb, rfl⟩
 rintro env H0 ⟨p, rv', mk, gw, gr, gk, Q, hob, hr', hmb, rfl⟩
 unfold watchF at hK1 hK2
 refine sw1 @aggC.eq_1 ?_
 refine i_call H33 ⟨c 0, c 1, rfl, fun hb => ?_, fun hb pd h1 hpd hle1 hP => ?_⟩
 ·unfold epBad at hb
  rw [if_pos (show cfgBad c by unfold cfgBad; omega)] at hK1
  refine sw0 ?_
  refine i_stF hob (Q.lt 3 rfl) 35 rfl rfl oM fun g2 h2 st2 ho2 => ?_
  refine sw1 @errV_succ ?_
  exact hK1 oM h2 ((Q.step 3 rfl st2).lt 0 rfl)
 unfold epBad at hb
 have Q1 := Q.new hle1
 refine sw0 ?_
 refine i_stF hob (Q1.lt 3 rfl) 35 rfl rfl oM fun g2 h2 st2 ho2 => ?_
 have Q2 := Q1.step 3 rfl st2
 refine sw0 ?_
 refine i_call H28 ⟨c 2, c 3, rfl, fun hb2 h3 hle3 => ?_, fun hb2 pt h3 hpt hle3 hT => ?_⟩
 ·unfold newBad at hb2
  rw [if_pos (show cfgBad c by unfold cfgBad; omega)] at hK1
  refine sw0 ?_
  refine i_stF ho2 ((Q2.up hle3).lt 3 rfl) 36 rfl rfl oM fun g4 h4 st4 ho4 => ?_
  refine sw1 @errV_succ ?_
  exact hK1 oM h4 (((Q2.up hle3).step 3 rfl st4).lt 0 rfl)
 unfold newBad at hb2
 have Q3 := Q2.new hle3
 refine sw0 ?_
 refine i_stF ho2 (Q3.lt 3 rfl) 36 rfl rfl oM fun g4 h4 st4 ho4 => ?_
 have Q4 := Q3.step 3 rfl st4
 have C36 := (ho4.le (Q4.lt 3 rfl)).cell (j := 36) oM
 rw [upF_eq] at C36
 refine sw1 @C36 ?_
 refine i_call H44 ⟨pt, (c 2).toNat, (c 3).toNat, c 4, c 5, rfl, fun hb3 => ?_, fun hb3 px h5 hpx hle5 hX => ?_⟩
 ·unfold inBad at hb3
  rw [if_pos (show cfgBad c by unfold cfgBad; omega)] at hK1
  refine sw0 ?_
  refine i_stF ho4 (Q4.lt 3 rfl) 37 rfl rfl oM fun g6 h6 st6 ho6 => ?_
  refine sw1 @errV_succ ?_
  exact hK1 oM h6 ((Q4.step 3 rfl st6).lt 0 rfl)
 unfold inBad at hb3
 rw [if_neg (show ¬ cfgBad c by unfold cfgBad; omega)] at hK1 hK2
 have Q5 := Q4.new hle5
 refine sw0 ?_
 refine i_stF ho4 (Q5.lt 3 rfl) 37 rfl rfl oM fun g6 h6 st6 ho6 => ?_
 have Q6 := Q5.step 3 rfl st6
 simp only [List.set, List.cons_append, List.nil_append] at Q6
 refine sw0 ?_
 clear Q5 Q4 Q3 Q2 Q1 Q
 refine i_loop (fun i : Nat => [none, some rv, none, none, none, some (.pointer (some ⟨p, 0, none⟩)), none, none, none, none, none, none, none, none, none, none, none, none, none, none, none, none, none, none, none, none, none, none, none, some (.agg #[.int .i64 (c 6), .int .i64 (c 7), .int .i64 (c 8), .int .i64 (c 9), .int .i64 (c 10), .int .i64 (c 11), .int .i64 (c 12), .int .i64 (c 13), .int .i64 (c 14), .int .i64 (c 15), .int .i64 (c 16), .int .i64 (c 17), .int .i64 (c 18), .int .i64 (c 19), .int .i64 (c 20), .int .i64 (c 21)]), some (.int .i64 (i : Nat)), none, none, none, none, none, none, none, none, none, none, none, none, none, none, none, none])
  (fun i H' => i ≤ 4 ∧ H' = h6 ∧ ∀ k, k < 4 * i → ¬ (c (6 + k) < -1 ∨ 7 < c (6 + k))) (fun i => 4 - i) 0 (by try simp only [Pf]; rfl) ⟨oM, rfl, fun k hk => by omega⟩ ?_
 rintro i H' ⟨hi, rfl, hwb⟩
 have hi1 : IntKind.i64.wrap ((i : Int) + 1) = ((i + 1 : Nat) : Int) := by rw [w64 oM oM]; omega
 refine sw0 ?_
 refine i_cond (fun c1 => ?_) (fun c1 => ?_)
 ·have hv := vidxn_c c H' (i := i) oM
  refine sw1 @hv ?_
  refine i_loop (fun j : Nat => [none, some rv, none, none, none, some (.pointer (some ⟨p, 0, none⟩)), none, none, none, none, none, none, none, none, none, none, none, none, none, none, none, none, none, none, none, none, none, none, none, some (.agg #[.int .i64 (c 6), .int .i64 (c 7), .int .i64 (c 8), .int .i64 (c 9), .int .i64 (c 10), .int .i64 (c 11), .int .i64 (c 12), .int .i64 (c 13), .int .i64 (c 14), .int .i64 (c 15), .int .i64 (c 16), .int .i64 (c 17), .int .i64 (c 18), .int .i64 (c 19), .int .i64 (c 20), .int .i64 (c 21)]), some (.int .i64 (i : Nat)), none, none, some (.agg #[.int .i64 (c (6 + 4 * i)), .int .i64 (c (6 + (4 * i + 1))), .int .i64 (c (6 + (4 * i + 2))), .int .i64 (c (6 + (4 * i + 3)))]), some (.int .i64 (j : Nat)), none, none, none, none, none, none, none, none, none, none, none, none])
   (fun j H2 => j ≤ 4 ∧ H2 = H' ∧ ∀ k, k < 4 * i + j → ¬ (c (6 + k) < -1 ∨ 7 < c (6 + k))) (fun j => 4 - j) 0 (by try simp only [Pf]; rfl) ⟨oM, rfl, hwb⟩ ?_
  rintro j H2 ⟨hj, rfl, hwb2⟩
  have hj1 : IntKind.i64.wrap ((j : Int) + 1) = ((j + 1 : Nat) : Int) := by rw [w64 oM oM]; omega
  refine sw0 ?_
  refine i_cond (fun c2 => ?_) (fun c2 => ?_)
  ·have hv2 : (#[Value.int .i64 (c (6 + 4 * i)), .int .i64 (c (6 + (4 * i + 1))), .int .i64 (c (6 + (4 * i + 2))), .int .i64 (c (6 + (4 * i + 3)))] : Array Value)[j]? = some (.int .i64 (c (6 + (4 * i + j)))) := vidx_c _ _ _ _ (fun j => c (6 + (4 * i + j))) rfl rfl rfl rfl (j := j) oM
   refine sw1 @hv2 ?_
   refine i_cond (fun c3 => ?_) (fun c3 => ?_)
   ·have : whBad c = true := by
     unfold whBad
     rw [List.any_eq_true]
     exact ⟨4 * i + j, List.mem_range.2 oM, by rw [decide_eq_true_eq]; omega⟩
    rw [if_pos this] at hK1
    refine sw1 @errV_succ ?_
    exact hK1 oM H2 (Q6.lt 0 rfl)
   ·refine sw1 @hj1 ?_
    refine k_loop (j + 1) oM sE ⟨oM, rfl, fun k hk => ?_⟩
    by_cases e : k < 4 * i + j
    ·exact hwb2 k e
    ·have : k = 4 * i + j := oM
     subst this; omega
  ·have : j = 4 := oM
   subst this
   refine sw1 @hi1 ?_
   exact k_loop (i + 1) oM sE ⟨oM, rfl, fun k hk => hwb2 k oM⟩
 have hi4 : i = 4 := oM
 subst hi4
 have hwf : whBad c = false := by
  unfold whBad
  rw [List.any_eq_false]
  intro k hk
  have := hwb k (by have := List.mem_range.1 hk; omega)
  simpa using this
 rw [if_neg (by rw [hwf]; simp)] at hK1 hK2
 have Rr := (hrs.le (Q6.lt 0 rfl)).rules 6 Rl.enc_len default
 refine sw1 @Rr ?_
 refine i_cond (fun c4 => ?_) (fun c4 => ?_)
 ·rw [if_pos oM] at hK1
  refine sw1 @errV_succ ?_
  exact hK1 oM H' (Q6.lt 0 rfl)
 rw [if_neg oM] at hK1 hK2
 refine sw0 ?_
 refine i_mnew (ek := encKS) (ev := encBv) fun m h7 hm7 hle7 hmb7 => ?_
 have Q7 := Q6.new hle7
 have Rr := (hrs.le (Q7.lt 0 rfl)).rules 6 Rl.enc_len default
 refine sw1 @Rr ?_
 refine i_loop (fun i : Nat => [none, some rv, none, none, none, some (.pointer (some ⟨p, 0, none⟩)), none, none, none, some (.map (some m)), none, none, none, none, none, none, none, none, none, none, none, none, none, none, none, none, none, none, none, none, none, none, none, none, none, none, none, none, none, some rv, some (.int .i64 rs.length), some (.int .i64 (i : Nat)), none, none, none, none, none])
  (fun i H => i ≤ rs.length ∧ rulesF [] rs = rulesF ((rs.take i).map (·.name)) (rs.drop i) ∧ ∃ gn kv bs ck, Ps H [h, gr, gk, g6, fr H0 h1, fr h2 h3, fr h4 h5, gn] ∧ MapB encKS encBv gn m kv bs ck ∧ KnM kv ((rs.take i).map (·.name))) (fun i => rs.length - i) 0 (by try simp only [Pf]; rfl) ⟨oM, rfl, _, [], [], 0, Q7, hmb7, KnM.nil⟩ ?_
 clear Rr Q7 Q6 hmb7
 rintro i H ⟨hi, hrf, gn, kv, bs, ck, Q, hmn, hkn⟩
 have hi1 : IntKind.i64.wrap ((i : Int) + 1) = ((i + 1 : Nat) : Int) := by rw [w64 oM oM]; omega
 have Rr := (hrs.le (Q.lt 0 rfl)).rules 6 Rl.enc_len default
 refine sw0 ?_
 refine i_cond (fun c5 => ?_) (fun c5 => ?_)
 rotate_left
 ·have : i = rs.length := oM
  subst this
  rw [List.drop_length] at hrf
  refine sw0 ?_
  have Qf : Ps H [h, g6, gr, fr H0 h1, fr h2 h3, fr h4 h5, gk, fun _ => none] := by
   have q := (Q.take 7).perm (gs' := [h, g6, gr, fr H0 h1, fr h2 h3, fr h4 h5, gk]) ?_
   ·exact q.add (fun b o hb => by cases hb) fun x hx b hb => rfl
   ·refine List.Perm.cons _ ?_
    have e1 : [gr, gk, g6, fr H0 h1, fr h2 h3, fr h4 h5].Perm [gr, g6, gk, fr H0 h1, fr h2 h3, fr h4 h5] := List.Perm.cons _ (List.Perm.swap _ _ _)
    have e2 : [gr, g6, gk, fr H0 h1, fr h2 h3, fr h4 h5].Perm [g6, gr, gk, fr H0 h1, fr h2 h3, fr h4 h5] := List.Perm.swap _ _ _
    have e3 : [gk, fr H0 h1, fr h2 h3, fr h4 h5].Perm [fr H0 h1, fr h2 h3, fr h4 h5, gk] := List.perm_append_comm (l₁ := [gk]) (l₂ := [fr H0 h1, fr h2 h3, fr h4 h5])
    exact (e1.trans e2).trans ((List.Perm.cons _ (List.Perm.cons _ e3)))
  refine hK2 (by rw [hrf]; rfl) p _ H ?_ ⟨_, rv', .slice none 0 0, pd, pt, px, mk, [], g6, gr, fr H0 h1, fr h2 h3, fr h4 h5, gk, fun _ => none, (Qf.drop 1).sub, { ob := ho6, wf := WF.newW c rs rv' mk pd pt px, rs := hr', dk := hP, tr := hT, ix := hX [], km := ⟨[], 0, hmb⟩, kn := KnM.nil, al := SlB.nil }⟩
  refine ⟨joinL_le fun x hx => Qf.1 x (List.mem_cons_of_mem _ hx), fun b o h1 _ => Qf.lt 0 rfl b o h1, fun b h1 _ => joinL_none fun x hx => ?_⟩
  exact (List.pairwise_cons.1 Qf.2).1 x hx b h1
 have hi2 : i < rs.length := oM
 have hnx : rs.take (i + 1) = rs.take i ++ [rs.getD i default] := take_succ_d default hi2
 have hdr : rs.drop i = rs.getD i default :: rs.drop (i + 1) := by
  rw [List.drop_eq_getElem_cons hi2]; simp [List.getD, List.getElem?_eq_getElem hi2]
 have hrnm := hrn _ (getD_mem default hi2)
 generalize hre : rs.getD i default = r at *
 rw [hdr, rulesF_cons] at hrf
 refine sw3 @Rr @hre @Rl.enc.eq_1 ?_
 refine i_call H170 ⟨r, rfl, hrnm, ?_⟩
 by_cases hf : ruleF r = 0
 ·rw [hf, errV_zero]
  rw [if_neg (by simpa using hf)] at hrf
  have L1 := hkn.lkp (hmn.le (Q.lt 7 rfl)) r.name
  refine sw1 @L1 ?_
  refine i_cond (fun c6 => ?_) (fun c6 => ?_)
  ·rw [if_pos c6] at hrf
   rw [hrf] at hK1
   refine sw1 @errV_succ ?_
   exact hK1 oM H (Q.lt 0 rfl)
  ·rw [if_neg c6] at hrf
   refine sw0 ?_
   refine i_mupd (kb := .str) (ek := encKS) (ev := encBv) hmn (Q.lt 7 rfl) r.name true fun o bs' ck' hmb' st8 _ => ?_
   have Q8 := Q.step 7 rfl st8
   refine sw1 @hi1 ?_
   refine k_loop (i + 1) oM sE ⟨oM, by rw [hnx, List.map_append]; exact hrf, _, _, bs', ck', Q8, hmb', ?_⟩
   have := hkn.add r.name
   rw [if_neg c6] at this
   rw [hnx, List.map_append]; exact this
 ·rw [if_pos (by simpa using hf)] at hrf
  rw [hrf] at hK1
  rw [errV_pos N hf]
  have hK1' := hK1 hf
  rw [errV_pos N hf] at hK1'
  refine sw0 ?_
  exact hK1' H (Q.lt 0 rfl)
def Wa.whr (w : Wa) (s : List UInt8) (e : Int) : Int × Nat := Cw.whr (w.c 2).toNat (w.c 3).toNat w.E s e
noncomputable def Wa.par (w : Wa) (s : List UInt8) (e : Int) : List UInt8 × Nat := if (w.whr s e).2 ≠ 0 then ([], (w.whr s e).2) else (parE (w.c 2).toNat (w.c 3).toNat w.E (w.c 4).toNat (w.c 5).toNat s e.toNat, 0)
def Wa.bytes (w : Wa) : Nat := w.dr 0 + (w.ln 0).2 + (w.ln 1).2 + (w.ln 2).2 + (w.ln 3).2
def Wa.bytesTo (w : Wa) : Nat → Nat
 | 0 => w.dr 0
 | i + 1 => w.bytesTo i + (w.ln i).2
def S274 (N : Num) : Spec := fun args h K => ∃ g p w s e, args = [.pointer (some ⟨p, 0, none⟩), .string (str s), .int .i64 e] ∧ WO g p w ∧ Heap.le g h ∧ K (.tuple #[.int .i64 (w.whr s e).1, errV N (w.whr s e).2]) h
def S275 : Spec := fun args h K => ∃ g p w, args = [.pointer (some ⟨p, 0, none⟩)] ∧ WO g p w ∧ Heap.le g h ∧ K (.int .i64 (w.now : Nat)) h
def S276 : Spec := fun args h K => ∃ g p w, args = [.pointer (some ⟨p, 0, none⟩)] ∧ WO g p w ∧ Heap.le g h ∧ K (.int .i64 (w.E.length : Nat)) h
def aggDr (a b c d e : Nat) : Value := .agg #[.int .i64 (a : Nat), .int .i64 (b : Nat), .int .i64 (c : Nat), .int .i64 (d : Nat), .int .i64 (e : Nat)]
def S280 : Spec := fun args h K => ∃ g p w fed, args = [.pointer (some ⟨p, 0, none⟩)] ∧ WO g p w ∧ Heap.le g h ∧ w.Ok fed ∧ fed ≤ 100000 ∧ K (aggDr w.bytes (w.dr 1) (w.dr 2) (w.dr 3) (w.dr 4)) h
def S283 : Spec := fun args h K => ∃ g p w, args = [.pointer (some ⟨p, 0, none⟩)] ∧ WO g p w ∧ Heap.le g h ∧ w.al.length ≤ 200000 ∧ ∀ v h', Heap.le h h' → Sl encAl (fr h h') v w.al → K v h'
def S285 (N : Num) : Spec := fun args h K => ∃ g p w, ∃ r : Int, args = [.pointer (some ⟨p, 0, none⟩), .int .i64 r] ∧ WO g p w ∧ Heap.le g h ∧ ((r < 0 ∨ 3 < r) → K (.tuple #[.int .i64 0, errV N 1]) h) ∧ (∀ k : Nat, r = k → k < 4 → K (.tuple #[.int .i64 (w.wm k), .nilIface]) h)
def S286 (N : Num) : Spec := fun args h K => ∃ g p w s e, args = [.pointer (some ⟨p, 0, none⟩), .string (str s), .int .i64 e] ∧ WO g p w ∧ Heap.le g h ∧ K (.tuple #[.string (str (w.par s e).1), errV N (w.par s e).2]) h
theorem WO.read {g h : Heap} {p : Nat} {w : Wa} (hw : WO g p w) (hg : Heap.le g h) : ∃ F rv av pd pt px mk kv gw gr gd gt gx gk ga, Ps h [gw, gr, gd, gt, gx, gk, ga] ∧ WP p w F rv av pd pt px mk kv gw gr gd gt gx gk ga := by
 obtain ⟨F, rv, av, pd, pt, px, mk, kv, gw, gr, gd, gt, gx, gk, ga, hps, hw⟩ := hw
 exact ⟨F, rv, av, pd, pt, px, mk, kv, gw, gr, gd, gt, gx, gk, ga, hps.up hg, hw⟩
theorem F275_ok {N : Num} {Γ : Ctx} [GoodC Γ] (H39 : Sat S39 (Γ 39)) : Sat S275 (SF N Γ F275) := by
 rintro _ h K ⟨g, p, w, rfl, hw, hg, hK⟩
 obtain ⟨F, rv, av, pd, pt, px, mk, kv, gw, gr, gd, gt, gx, gk, ga, Q, hw⟩ := hw.read hg
 refine i_fun rfl ?_
 simp only [F275, Ze, Nat.reduceSub, Nat.reduceAdd]
 have C35 := hw.c35 (Q.lt 0 rfl)
 refine sw1 @C35 ?_
 refine i_call H39 ⟨gd, pd, _, _, _, _, rfl, hw.dk, Q.lt 2 rfl, ?_⟩
 refine sw0 ?_
 exact hK
theorem F276_ok {N : Num} {Γ : Ctx} [GoodC Γ] (H31 : Sat S31 (Γ 31)) : Sat S276 (SF N Γ F276) := by
 rintro _ h K ⟨g, p, w, rfl, hw, hg, hK⟩
 obtain ⟨F, rv, av, pd, pt, px, mk, kv, gw, gr, gd, gt, gx, gk, ga, Q, hw⟩ := hw.read hg
 refine i_fun rfl ?_
 simp only [F276, Ze, Nat.reduceSub, Nat.reduceAdd]
 have C36 := hw.c36 (Q.lt 0 rfl)
 refine sw1 @C36 ?_
 refine i_call H31 ⟨gt, pt, _, _, _, rfl, hw.tr, Q.lt 3 rfl, ?_⟩
 refine sw0 ?_
 exact hK
theorem F274_ok {N : Num} {Γ : Ctx} [GoodC Γ] (H30 : Sat (S30 N) (Γ 30)) : Sat (S274 N) (SF N Γ F274) := by
 rintro _ h K ⟨g, p, w, s, e, rfl, hw, hg, hK⟩
 obtain ⟨F, rv, av, pd, pt, px, mk, kv, gw, gr, gd, gt, gx, gk, ga, Q, hw⟩ := hw.read hg
 refine i_fun rfl ?_
 simp only [F274, Ze, Nat.reduceSub, Nat.reduceAdd]
 have C36 := hw.c36 (Q.lt 0 rfl)
 unfold Wa.whr Cw.whr at hK
 refine sw1 @C36 ?_
 refine i_call H30 ⟨gt, pt, _, _, _, s, e, rfl, hw.tr, Q.lt 3 rfl, fun hb => ?_, fun h0 h1 h2 => ?_, fun h0 h1 h2 => ?_⟩
 ·rw [if_pos hb] at hK
  refine sw0 ?_
  exact hK
 ·rw [if_neg oM, if_neg h2] at hK
  refine sw0 ?_
  exact hK
 ·rw [if_neg oM, if_pos h2] at hK
  refine sw0 ?_
  exact hK
theorem F285_ok {N : Num} {Γ : Ctx} [GoodC Γ] : Sat (S285 N) (SF N Γ F285) := by
 rintro _ h K ⟨g, p, w, r, rfl, hw, hg, hK1, hK2⟩
 obtain ⟨F, rv, av, pd, pt, px, mk, kv, gw, gr, gd, gt, gx, gk, ga, Q, hw⟩ := hw.read hg
 refine i_fun rfl ?_
 simp only [F285, Ze, Nat.reduceSub, Nat.reduceAdd]
 refine sw0 ?_
 refine i_cond (fun c1 => ?_) (fun c1 => ?_)
 ·refine sw0 ?_
  exact hK1 oM
 obtain ⟨k, rfl⟩ : ∃ k : Nat, r = k := ⟨r.toNat, oM⟩
 have hk : k < 4 := oM
 have CK : h.cell (((⟨p, 0, none⟩ : Addr).add 31).add k) = some (.int .i64 (w.wm k)) := by
  rw [add_add, (hw.ob.le (Q.lt 0 rfl)).cell oM, hw.wf.wm k hk]
 refine sw1 @CK ?_
 exact hK2 k rfl hk
theorem F286_ok {N : Num} {Γ : Ctx} [GoodC Γ] (H30 : Sat (S30 N) (Γ 30)) (H49 : Sat (S49 N) (Γ 49)) : Sat (S286 N) (SF N Γ F286) := by
 rintro _ h K ⟨g, p, w, s, e, rfl, hw, hg, hK⟩
 obtain ⟨F, rv, av, pd, pt, px, mk, kv, gw, gr, gd, gt, gx, gk, ga, Q, hw⟩ := hw.read hg
 refine i_fun rfl ?_
 simp only [F286, Ze, Nat.reduceSub, Nat.reduceAdd]
 have C36 := hw.c36 (Q.lt 0 rfl)
 have C37 := hw.c37 (Q.lt 0 rfl)
 refine sw1 @C36 ?_
 refine i_call H30 ⟨gt, pt, _, _, _, s, e, rfl, hw.tr, Q.lt 3 rfl, fun hb => ?_, fun h0 h1 h2 => ?_, fun h0 h1 h2 => ?_⟩
 ·have e1 : w.whr s e = (0, 1) := by unfold Wa.whr Cw.whr; rw [if_pos hb]
  unfold Wa.par at hK
  rw [e1] at hK
  refine sw1 @errV_succ ?_
  exact hK
 ·have e1 : w.whr s e = (0, 5) := by unfold Wa.whr Cw.whr; rw [if_neg oM, if_neg h2]
  unfold Wa.par at hK
  rw [e1] at hK
  refine sw1 @errV_succ ?_
  exact hK
 ·have e1 : (w.whr s e).2 = 0 := by unfold Wa.whr Cw.whr; rw [if_neg oM, if_pos h2]
  unfold Wa.par at hK
  rw [if_neg oM] at hK
  obtain ⟨k, rfl⟩ : ∃ k : Nat, e = k := ⟨e.toNat, oM⟩
  refine sw1 @C37 ?_
  refine i_call H49 ⟨gx, px, pt, _, _, _, _, _, _, s, k, rfl, hw.ix, Q.lt 4 rfl, fun hb => by omega, fun i hi hl => ?_⟩
  obtain rfl : k = i := oM
  refine sw0 ?_
  exact hK
theorem F283_ok {N : Num} {Γ : Ctx} [GoodC Γ] : Sat S283 (SF N Γ F283) := by
 rintro _ h K ⟨g, p, w, rfl, hw, hg, hal, hK⟩
 obtain ⟨F, rv, av, pd, pt, px, mk, kv, gw, gr, gd, gt, gx, gk, ga, Q, hw⟩ := hw.read hg
 refine i_fun rfl ?_
 simp only [F283, Ze, Nat.reduceSub, Nat.reduceAdd]
 have C44 := hw.c44 (Q.lt 0 rfl)
 refine sw1 @C44 ?_
 refine i_app encAl_len (fun _ => rfl) (OwnS.nil (Heap.le.refl h)) (SlB.sl encAl_len (hw.al.le (Q.lt 6 rfl))) (by simp only [List.length_nil]; omega) fun v1 h1 ho1 => ?_
 have O1 := ho1.one
 refine sw0 ?_
 exact hK v1 h1 ho1.1 (ho1.slf encAl_len)
theorem F280_ok {N : Num} {Γ : Ctx} [GoodC Γ] (H26 : Sat S26 (Γ 26)) : Sat S280 (SF N Γ F280) := by
 rintro _ h K ⟨g, p, w, fed, rfl, hwo, hg, hok, hfed, hK⟩
 obtain ⟨F, rv, av, pd, pt, px, mk, kv, gw, gr, gd, gt, gx, gk, ga, Q, hw⟩ := hwo.read hg
 refine i_fun rfl ?_
 simp only [F280, Ze, Nat.reduceSub, Nat.reduceAdd]
 have hrow : h.row ((⟨p, 0, none⟩ : Addr).add 39) 5 = some #[.int .i64 (w.dr 0 : Nat), .int .i64 (w.dr 1 : Nat), .int .i64 (w.dr 2 : Nat), .int .i64 (w.dr 3 : Nat), .int .i64 (w.dr 4 : Nat)] := by
  have := ((objF.le hw.ob (Q.lt 0 rfl)).row).row (i := 39) (n := 5) (by simp)
  rw [this, ← hw.wf.dr 0 oM, ← hw.wf.dr 1 oM, ← hw.wf.dr 2 oM, ← hw.wf.dr 3 oM, ← hw.wf.dr 4 oM]
  rfl
 have hb1 : ∀ k, k < 4 → (w.ln k).2 ≤ 100000 := by
  intro k hk
  have := hok.sum
  rcases (by omega : k = 0 ∨ k = 1 ∨ k = 2 ∨ k = 3) with rfl | rfl | rfl | rfl <;> omega
 have hb2 : ∀ i, i ≤ 4 → w.bytesTo i ≤ 100000 * i := by
  intro i
  induction i with
  | zero => intro _; simp [Wa.bytesTo, hok.d0]
  | succ i ih => intro hi; have := ih oM; have := hb1 i oM; simp only [Wa.bytesTo]; omega
 refine sw1 @hrow ?_
 refine i_loop (fun i : Nat => [some (.pointer (some ⟨p, 0, none⟩)), some (.agg #[.int .i64 0, .int .i64 0, .int .i64 0, .int .i64 0, .int .i64 0]), some (aggDr (w.bytesTo i) (w.dr 1) (w.dr 2) (w.dr 3) (w.dr 4)), none, none, some (.int .i64 (i : Nat)), none, none, none])
  (fun i H => i ≤ 4 ∧ H = h) (fun i => 4 - i) 0 (by unfold aggDr; try simp only [Pf]; exact ⟨rfl, rfl⟩) ⟨oM, rfl⟩ ?_
 rintro i H ⟨hi, rfl⟩
 have hi1 : IntKind.i64.wrap ((i : Int) + 1) = ((i + 1 : Nat) : Int) := by rw [w64 oM oM]; omega
 refine sw1 @aggDr.eq_1 ?_
 refine i_cond (fun c1 => ?_) (fun c1 => ?_)
 rotate_left
 ·have : i = 4 := oM
  subst this
  refine sw0 ?_
  exact hK
 have hi4 : i < 4 := oM
 have hla := hwo.lineAt hg hi4
 have hadr : ((⟨p, 0, none⟩ : Addr).add 23).add (i * 2) = ⟨p, 23 + 2 * i, none⟩ := by rw [add_add, addr_add' _ rfl, Nat.zero_add, Nat.mul_comm]
 have hs1 := hb1 i hi4
 have hs2 := hb2 i oM
 have wi : IntKind.i64.wrap ((w.bytesTo i : Int) + ((w.ln i).2 : Nat)) = ((w.bytesTo (i + 1) : Nat) : Int) := by rw [w64 oM oM]; simp only [Wa.bytesTo]; omega
 refine sw1 @hadr ?_
 refine i_call H26 ⟨_, _, _, rfl, hla, ?_⟩
 refine sw0 ?_
 refine i_le (le_one (Heap.le.refl H)) ?_
 refine sw2 @wi @hi1 ?_
 exact k_loop (i + 1) oM sE ⟨oM, rfl⟩
def lightA (L : List Ac) (most : Int) : Prop := (L.length : Int) ≤ most ∧ (∀ a ∈ L, ¬ ((400 < a.s.length ∧ a.s.length ≤ 2000) ∨ 3000 < a.s.length)) ∧ (L.map fun a => min a.s.length 500).sum < 6000
def S264 : Spec := fun args h K => ∃ v L, ∃ most : Int, args = [v, .int .i64 most] ∧ Sl Ac.enc h v L ∧ most ≤ 1000 ∧ ∀ b, (b = true → lightA L most) → K (.bool b) h
theorem F264_ok {N : Num} {Γ : Ctx} [GoodC Γ] : Sat S264 (SF N Γ F264) := by
 rintro _ h K ⟨v, L, most, rfl, hL, hmost, hK⟩
 have R := hL.rules 7 Ac.enc_len default
 refine i_fun rfl ?_
 simp only [F264, Ze, Nat.reduceSub, Nat.reduceAdd]
 refine sw1 @R ?_
 refine i_cond (fun c1 => ?_) (fun c1 => ?_)
 ·refine sw0 ?_
  exact hK false (by simp)
 refine sw0 ?_
 refine i_loop (fun i : Nat => [some v, some (.int .i64 most), none, some (.int .i64 (((L.take i).map fun a => min a.s.length 500).sum : Nat)), some (.int .i64 (i : Nat)), none, none, none])
  (fun i H => i ≤ L.length ∧ H = h ∧ (∀ a ∈ L.take i, ¬ ((400 < a.s.length ∧ a.s.length ≤ 2000) ∨ 3000 < a.s.length)) ∧ ((L.take i).map fun a => min a.s.length 500).sum ≤ 500 * i) (fun i => L.length - i) 0 (by try simp only [Pf]; exact ⟨rfl, rfl⟩) ⟨oM, rfl, by simp, by simp⟩ ?_
 rintro i H ⟨hi, rfl, hsh, hsum⟩
 have hi1 : IntKind.i64.wrap ((i : Int) + 1) = ((i + 1 : Nat) : Int) := by rw [w64 oM oM]; omega
 refine sw1 @R ?_
 refine i_cond (fun c2 => ?_) (fun c2 => ?_)
 rotate_left
 ·have : i = L.length := oM
  subst this
  rw [List.take_length] at hsh hsum ⊢
  refine sw0 ?_
  exact hK _ fun hb => ⟨oM, hsh, by have := of_decide_eq_true hb; omega⟩
 have hi2 : i < L.length := oM
 have hnx : L.take (i + 1) = L.take i ++ [L.getD i default] := take_succ_d default hi2
 have hsx : ((L.take (i + 1)).map fun a => min a.s.length 500).sum = ((L.take i).map fun a => min a.s.length 500).sum + min (L.getD i default).s.length 500 := by rw [hnx, List.map_append, List.sum_append]; simp
 generalize hae : L.getD i default = a at *
 refine sw3 @R @hae @Ac.enc.eq_1 ?_
 refine i_cond (fun c3 => ?_) (fun c3 => ?_)
 ·refine sw0 ?_
  exact hK false (by simp)
 have hw1 : IntKind.i64.wrap ((((L.take i).map fun a => min a.s.length 500).sum : Nat) + min (a.s.length : Int) 500) = ((((L.take (i + 1)).map fun a => min a.s.length 500).sum : Nat) : Int) := by
  rw [hsx]
  rw [w64 oM oM]; omega
 refine sw5 @R @hae @Ac.enc.eq_1 @hw1 @hi1 ?_
 refine k_loop (i + 1) oM sE ⟨oM, rfl, fun x hx => ?_, by rw [hsx]; omega⟩
 rw [hnx] at hx
 rcases List.mem_append.1 hx with hx | hx
 ·exact hsh x hx
 ·rw [List.mem_singleton.1 hx]; omega
def lightR (rs : List Rl) : Prop := rs.length ≤ 9 ∧ ∀ r ∈ rs, r.name.length ≤ 50
instance (rs : List Rl) : Decidable (lightR rs) := by unfold lightR; infer_instance
def S265 : Spec := fun args h K => ∃ v rs, args = [v] ∧ Sl Rl.enc h v rs ∧ K (.bool (decide (lightR rs))) h
theorem F265_ok {N : Num} {Γ : Ctx} [GoodC Γ] : Sat S265 (SF N Γ F265) := by
 rintro _ h K ⟨v, rs, rfl, hL, hK⟩
 have R := hL.rules 6 Rl.enc_len default
 refine i_fun rfl ?_
 simp only [F265, Ze, Nat.reduceSub, Nat.reduceAdd]
 refine sw1 @R ?_
 refine i_cond (fun c1 => ?_) (fun c1 => ?_)
 ·rw [decide_eq_false (fun e => by have := e.1; omega)] at hK
  refine sw0 ?_
  exact hK
 refine sw0 ?_
 refine i_loop (fun i : Nat => [some v, none, some (.int .i64 (i : Nat)), none, none, none])
  (fun i H => i ≤ rs.length ∧ H = h ∧ ∀ r ∈ rs.take i, r.name.length ≤ 50) (fun i => rs.length - i) 0 (by try simp only [Pf]; rfl) ⟨oM, rfl, by simp⟩ ?_
 rintro i H ⟨hi, rfl, hsh⟩
 have hi1 : IntKind.i64.wrap ((i : Int) + 1) = ((i + 1 : Nat) : Int) := by rw [w64 oM oM]; omega
 refine sw1 @R ?_
 refine i_cond (fun c2 => ?_) (fun c2 => ?_)
 rotate_left
 ·have : i = rs.length := oM
  subst this
  rw [List.take_length] at hsh
  rw [decide_eq_true ⟨oM, hsh⟩] at hK
  refine sw0 ?_
  exact hK
 have hi2 : i < rs.length := oM
 have hnx : rs.take (i + 1) = rs.take i ++ [rs.getD i default] := take_succ_d default hi2
 have hmem := getD_mem default hi2
 generalize hae : rs.getD i default = a at *
 refine sw3 @R @hae @Rl.enc.eq_1 ?_
 refine i_cond (fun c3 => ?_) (fun c3 => ?_)
 ·rw [decide_eq_false (fun e => by have := e.2 a hmem; omega)] at hK
  refine sw0 ?_
  exact hK
 refine sw1 @hi1 ?_
 refine k_loop (i + 1) oM sE ⟨oM, rfl, fun x hx => ?_⟩
 rw [hnx] at hx
 rcases List.mem_append.1 hx with hx | hx
 ·exact hsh x hx
 ·rw [List.mem_singleton.1 hx]; omega
def S267 : Spec := fun args h K => ∃ c rv rs, args = [aggC c, rv] ∧ Sl Rl.enc h rv rs ∧ ∀ h', Heap.le h h' → K (.int .i64 (watchF c rs : Nat)) h'
def newC (c : Nat → Int) : Nat → Value := fun k => .int .i64 (c k)
theorem F267_ok {N : Num} {Γ : Ctx} [GoodC Γ] (H168 : Sat S168 (Γ 168)) : Sat S267 (SF N Γ F267) := by
 rintro _ h K ⟨c, rv, rs, rfl, hrs, hK⟩
 refine i_fun rfl ?_
 simp only [F267, Ze, Nat.reduceSub, Nat.reduceAdd, aggC]
 refine sw0 ?_
 refine i_newO fun p h1 hle1 hp hob => ?_
 have hob1 : objF h1 p 22 (newC c) := hob.le (fr_le _ _)
 have hC : ∀ k, k < 22 → h1.cell ((⟨p, 0, none⟩ : Addr).add k) = some (.int .i64 (c k)) := fun k hk => hob1.cell hk
 have hC0 := hC 0 oM
 have hC1 := hC 1 oM
 have hC2 := hC 2 oM
 have hC3 := hC 3 oM
 have hC4 := hC 4 oM
 have hC5 := hC 5 oM
 have hK := hK h1 hle1
 unfold watchF at hK
 refine sw6 @hC0 @hC1 @hC2 @hC3 @hC4 @hC5 ?_
 refine i_cond (fun c1 => ?_) (fun c1 => ?_)
 ·rw [if_pos (show cfgBad c by unfold cfgBad; omega)] at hK
  refine sw0 ?_
  exact hK
 rw [if_neg (show ¬ cfgBad c by unfold cfgBad; omega)] at hK
 refine sw0 ?_
 refine i_loop (fun i : Nat => [none, some rv, some (.pointer (some ⟨p, 0, none⟩)), none, some (.int .i64 (i : Nat)), none, none, none, none, none, none, none, none, none, none, none, none])
  (fun i H => i ≤ 16 ∧ H = h1 ∧ ∀ k, k < i → ¬ (c (6 + k) < -1 ∨ 7 < c (6 + k))) (fun i => 16 - i) 0 (by try simp only [Pf]; rfl) ⟨oM, rfl, fun k hk => by omega⟩ ?_
 rintro i H ⟨hi, rfl, hwb⟩
 have hi1 : IntKind.i64.wrap ((i : Int) + 1) = ((i + 1 : Nat) : Int) := by rw [w64 oM oM]; omega
 refine sw0 ?_
 refine i_cond (fun c2 => ?_) (fun c2 => ?_)
 ·have hq : Int.tdiv (i : Int) 4 = ((i / 4 : Nat) : Int) := rfl
  have hr : Int.tmod (i : Int) 4 = ((i % 4 : Nat) : Int) := rfl
  have hwq : IntKind.i64.wrap ((i / 4 : Nat) : Int) = ((i / 4 : Nat) : Int) := w64 oM oM
  have hwr : IntKind.i64.wrap ((i % 4 : Nat) : Int) = ((i % 4 : Nat) : Int) := w64 oM oM
  have hCi : H.cell (((((⟨p, 0, none⟩ : Addr).add 6).add (i / 4 * 4))).add (i % 4)) = some (.int .i64 (c (6 + i))) := by
   rw [add_add, add_add, show 6 + i / 4 * 4 + i % 4 = 6 + i by omega]
   exact hC (6 + i) oM
  refine sw5 @hq @hr @hwq @hwr @hCi ?_
  refine i_cond (fun c3 => ?_) (fun c3 => ?_)
  ·have : whBad c = true := by
    unfold whBad
    rw [List.any_eq_true]
    exact ⟨i, List.mem_range.2 oM, by rw [decide_eq_true_eq]; omega⟩
   rw [if_pos this] at hK
   refine sw0 ?_
   exact hK
  ·refine sw1 @hi1 ?_
   refine k_loop (i + 1) oM sE ⟨oM, rfl, fun k hk => ?_⟩
   by_cases e : k < i
   ·exact hwb k e
   ·have : k = i := oM
    subst this; omega
 have hi4 : i = 16 := oM
 subst hi4
 have hwf : whBad c = false := by
  unfold whBad
  rw [List.any_eq_false]
  intro k hk
  have := hwb k (by have := List.mem_range.1 hk; omega)
  simpa using this
 rw [if_neg (by rw [hwf]; simp)] at hK
 have Rr := (hrs.le hle1).rules 6 Rl.enc_len default
 refine sw1 @Rr ?_
 refine i_cond (fun c4 => ?_) (fun c4 => ?_)
 ·rw [if_pos oM] at hK
  refine sw0 ?_
  exact hK
 rw [if_neg oM] at hK
 refine sw0 ?_
 refine i_loop (fun i : Nat => [none, some rv, none, none, none, some (.int .i64 (i : Nat)), none, none, none, none, none, none, none, none, none, none, none])
  (fun i H' => i ≤ rs.length ∧ H' = H ∧ rulesF [] rs = rulesF ((rs.take i).map (·.name)) (rs.drop i)) (fun i => rs.length - i) 0 (by try simp only [Pf]; rfl) ⟨oM, rfl, rfl⟩ ?_
 rintro i H' ⟨hi, rfl, hrf⟩
 have hi1 : IntKind.i64.wrap ((i : Int) + 1) = ((i + 1 : Nat) : Int) := by rw [w64 oM oM]; omega
 refine sw1 @Rr ?_
 refine i_cond (fun c5 => ?_) (fun c5 => ?_)
 rotate_left
 ·have : i = rs.length := oM
  subst this
  rw [List.drop_length] at hrf
  rw [hrf] at hK
  refine sw0 ?_
  exact hK
 have hi2 : i < rs.length := oM
 have hnx : rs.take (i + 1) = rs.take i ++ [rs.getD i default] := take_succ_d default hi2
 have hdr : rs.drop i = rs.getD i default :: rs.drop (i + 1) := by
  rw [List.drop_eq_getElem_cons hi2]; simp [List.getD, List.getElem?_eq_getElem hi2]
 generalize hre : rs.getD i default = r at *
 rw [hdr, rulesF_cons] at hrf
 refine sw3 @Rr @hre @Rl.enc.eq_1 ?_
 refine i_call H168 ⟨r, rfl, ?_⟩
 by_cases hf : ruleF r = 0
 rotate_left
 ·rw [if_pos (by simpa using hf)] at hrf
  rw [hrf] at hK
  have h0 : (0 : Int) < (ruleF r : Nat) := oM
  refine sw1 @h0 ?_
  exact hK
 rw [if_neg (by simpa using hf)] at hrf
 rw [hf]
 refine sw0 ?_
 refine i_loop (fun k : Nat => [none, some rv, none, none, none, some (.int .i64 (i : Nat)), none, some (.int .i64 (k : Nat)), none, none, none, none, none, none, none, none, none])
  (fun k H2 => k ≤ i ∧ H2 = H' ∧ r.name ∉ (rs.take k).map (·.name)) (fun k => i - k) 0 (by try simp only [Pf]; rfl) ⟨oM, rfl, by simp⟩ ?_
 rintro k H2 ⟨hk, rfl, hkn⟩
 have hk1 : IntKind.i64.wrap ((k : Int) + 1) = ((k + 1 : Nat) : Int) := by rw [w64 oM oM]; omega
 refine sw0 ?_
 refine i_cond (fun c6 => ?_) (fun c6 => ?_)
 rotate_left
 ·have : k = i := oM
  subst this
  rw [if_neg hkn] at hrf
  refine sw1 @hi1 ?_
  exact k_loop (k + 1) oM sE ⟨oM, rfl, by rw [hnx, List.map_append]; exact hrf⟩
 have hk2 : k < rs.length := oM
 have hnk : rs.take (k + 1) = rs.take k ++ [rs.getD k default] := take_succ_d default hk2
 have hks : (rs.getD k default).name ∈ (rs.take i).map (·.name) := by
  refine List.mem_map.2 ⟨_, ?_, rfl⟩
  rw [List.getD_eq_getElem?_getD, List.getElem?_eq_getElem hk2]
  exact List.mem_take_iff_getElem.2 ⟨k, oM, rfl⟩
 generalize hqe : rs.getD k default = q at *
 refine sw4 @Rr @hre @hqe @Rl.enc.eq_1 ?_
 refine i_cond (fun c7 => ?_) (fun c7 => ?_)
 ·rw [if_pos (by rw [← c7]; exact hks)] at hrf
  rw [hrf] at hK
  refine sw0 ?_
  exact hK
 ·refine sw1 @hk1 ?_
  refine k_loop (k + 1) oM sE ⟨oM, rfl, ?_⟩
  rw [hnk, List.map_append, List.mem_append, List.map_cons, List.map_nil, List.mem_singleton]
  rintro (e | e)
  ·exact hkn e
  ·exact c7 e.symm
theorem watchF_new {c : Nat → Int} {rs : List Rl} (h : watchF c rs = 0) : (newW c rs).Ok 0 := by
 unfold watchF at h
 split at h
 ·cases h
 rename_i h1
 split at h
 ·cases h
 rename_i h2
 split at h
 ·cases h
 rename_i h3
 unfold cfgBad at h1
 have hrf : ∀ (l : List Rl) seen, rulesF seen l = 0 → ∀ r ∈ l, ruleF r = 0 := by
  intro l
  induction l with
  | nil => intro _ _ r hr; cases hr
  | cons a l ih =>
   intro seen h r hr
   rw [rulesF_cons] at h
   split at h
   ·rename_i e; exact absurd h e
   ·rename_i e
    split at h
    ·cases h
    ·rcases List.mem_cons.1 hr with rfl | hr
     ·simpa using e
     ·exact ih _ h r hr
 refine ⟨by simp only [newW]; omega, by simp only [newW]; omega, by simp only [newW]; omega, by simp only [newW]; omega, by simp only [newW]; omega, by simp only [newW]; omega, fun k hk => ?_, by simp only [newW]; omega, hrf _ _ h, by simp [newW], by simp [newW], rfl, by simp [newW], List.Pairwise.nil, by simp [newW], by simp [newW, clos], by simp [newW], by simp [newW]⟩
 have : ¬ (c (6 + k) < -1 ∨ 7 < c (6 + k)) := by
  intro e
  apply h2
  unfold whBad
  rw [List.any_eq_true]
  exact ⟨k, List.mem_range.2 hk, by rw [decide_eq_true_eq]; exact e⟩
 simp only [newW]; omega
theorem al_eq (h : Heap) (a b : Al) (n : Bool) : o2V h (.eqv (.flat [.int, .int, .str]) n) (.v (.agg #[.int .i64 a.rule, .int .i64 a.epoch, .string (str a.tag)])) (.v (.agg #[.int .i64 b.rule, .int .i64 b.epoch, .string (str b.tag)])) = some (.v (.bool (if n then decide (a ≠ b) else decide (a = b)))) := by
 have key : cellsEq [.int, .int, .str] [.int .i64 a.rule, .int .i64 a.epoch, .string (str a.tag)] [.int .i64 b.rule, .int .i64 b.epoch, .string (str b.tag)] = some (decide (a = b)) := by
  simp only [cellsEq_int, cellsEq_str, cellsEq_nil]
  obtain ⟨a1, a2, a3⟩ := a
  obtain ⟨b1, b2, b3⟩ := b
  simp only [Al.mk.injEq]
  by_cases e1 : a1 = b1 <;> by_cases e2 : a2 = b2 <;> by_cases e3 : a3 = b3 <;> simp [e1, e2, e3]
 simp only [o2V, eqV]
 rw [key]
 cases n <;> simp
theorem five_same (h : Heap) (a b c d e : Int) : o2V h (.eqv (.flat [.int, .int, .int, .int, .int]) true) (.v (.agg #[.int .i64 a, .int .i64 b, .int .i64 c, .int .i64 d, .int .i64 e])) (.v (.agg #[.int .i64 a, .int .i64 b, .int .i64 c, .int .i64 d, .int .i64 e])) = some (.v (.bool false)) := by
 have key : cellsEq [.int, .int, .int, .int, .int] [.int .i64 a, .int .i64 b, .int .i64 c, .int .i64 d, .int .i64 e] [.int .i64 a, .int .i64 b, .int .i64 c, .int .i64 d, .int .i64 e] = some true := by
  simp only [cellsEq_int, cellsEq_nil, if_true]
 simp only [o2V, eqV]
 rw [key]; rfl
def S282 : Spec := fun args h K => ∃ v w l, args = [v, w] ∧ Sl encAl h v l ∧ Sl encAl h w l ∧ l.length ≤ 1000000 ∧ K (.bool true) h
theorem F282_ok {N : Num} {Γ : Ctx} [GoodC Γ] : Sat S282 (SF N Γ F282) := by
 rintro _ h K ⟨v, w, l, rfl, hv, hw, hl, hK⟩
 have RV := hv.rules 3 encAl_len default
 have RW := hw.rules 3 encAl_len default
 refine i_fun rfl ?_
 simp only [F282, Ze, Nat.reduceSub, Nat.reduceAdd]
 refine sw2 @RV @RW ?_
 refine i_loop (fun i : Nat => [some v, some w, none, some (.int .i64 (i : Nat)), none, none, none])
  (fun i H => i ≤ l.length ∧ H = h) (fun i => l.length - i) 0 (by try simp only [Pf]; rfl) ⟨oM, rfl⟩ ?_
 rintro i H ⟨hi, rfl⟩
 have hi1 : IntKind.i64.wrap ((i : Int) + 1) = ((i + 1 : Nat) : Int) := by rw [w64 oM oM]; omega
 refine sw1 @RV ?_
 refine i_cond (fun c1 => ?_) (fun c1 => ?_)
 rotate_left
 ·refine sw0 ?_
  exact hK
 have hi2 : i < l.length := oM
 generalize hae : l.getD i default = a at *
 have hsm := al_eq H a a true
 simp only [ne_eq, not_true_eq_false, decide_false, if_true] at hsm
 refine sw6 @RV @RW @hae @encAl.eq_1 @hsm @hi1 ?_
 exact k_loop (i + 1) oM sE ⟨oM, rfl⟩
def tickS : List UInt8 := [116, 105, 99, 107]
def Wa.act (w : Wa) (a : Ac) : Wa :=
 if a.kind ≠ tickS then (if feedF a.n a.s = 0 then w.feed a.n.toNat a.s else w)
 else if a.n < 0 ∨ 1000 - (w.now : Int) < a.n then w else w.tick a.n.toNat
def Wa.plays (w : Wa) (L : List Ac) : Wa := L.foldl Wa.act w
def acLen (a : Ac) : Nat := if feedF a.n a.s = 0 then a.s.length else 0
def acSum (L : List Ac) : Nat := (L.map acLen).sum
theorem feedF_r {n : Int} {s : List UInt8} (h : feedF n s = 0) : 0 ≤ n ∧ n ≤ 3 ∧ s.length ≤ 2000 := by
 unfold feedF at h
 split at h
 ·cases h
 ·split at h
  ·cases h
  ·omega
theorem Wa.Ok.act {w : Wa} {fed : Nat} {a : Ac} (h : w.Ok fed) (hf : fed + acLen a ≤ 20000) : (w.act a).Ok (fed + acLen a) := by
 unfold Wa.act
 split
 ·split
  ·rename_i e1 e2
   obtain ⟨r1, r2, r3⟩ := feedF_r e2
   have := h.feed (reader := a.n.toNat) (s := a.s) oM
   unfold acLen; rw [if_pos e2]; exact this
  ·exact h.mono oM
 ·split
  ·exact h.mono oM
  ·exact (h.tick oM oM).mono oM
theorem acSum_cons (a : Ac) (L : List Ac) : acSum (a :: L) = acLen a + acSum L := by simp [acSum]
theorem acSum_app (L M : List Ac) : acSum (L ++ M) = acSum L + acSum M := by simp [acSum]
theorem Wa.Ok.plays {L : List Ac} : ∀ {w : Wa} {fed : Nat}, w.Ok fed → fed + acSum L ≤ 20000 → (w.plays L).Ok (fed + acSum L) := by
 induction L with
 | nil => intro w fed h _; exact h
 | cons a L ih =>
  intro w fed h hf
  rw [acSum_cons] at hf ⊢
  have := ih (h.act (a := a) oM) oM
  rw [← Nat.add_assoc]; exact this
theorem lightA_sum {L : List Ac} {most : Int} (h : lightA L most) : acSum L < 6000 := by
 obtain ⟨_, h2, h3⟩ := h
 have : ∀ M : List Ac, (∀ a ∈ M, ¬ ((400 < a.s.length ∧ a.s.length ≤ 2000) ∨ 3000 < a.s.length)) → acSum M ≤ (M.map fun a => min a.s.length 500).sum := by
  intro M
  induction M with
  | nil => intro _; simp [acSum]
  | cons a M ih =>
   intro hM
   have h4 := ih fun x hx => hM x (List.mem_cons_of_mem _ hx)
   have h5 := hM a (by simp)
   rw [acSum_cons, List.map_cons, List.sum_cons]
   have : acLen a ≤ min a.s.length 500 := by
    unfold acLen
    split
    ·rename_i e
     have := (feedF_r e).2.2
     omega
    ·omega
   omega
 exact Nat.lt_of_le_of_lt (this L h2) h3
theorem acSum_take (L : List Ac) (i : Nat) : acSum (L.take i) ≤ acSum L := by
 conv => rhs; rw [← List.take_append_drop i L]
 rw [acSum_app]; omega
theorem Sl.mono {α : Type} {enc : α → List Value} {h h' : Heap} {v : Value} {l : List α} (a : Sl enc h v l) (hl : Heap.le h h') : Sl enc h' v l := a.le hl
def actOk (a : Ac) : Prop := a.kind ≠ tickS ∧ feedF a.n a.s = 0
instance (a : Ac) : Decidable (actOk a) := by unfold actOk; infer_instance
def tagsF (fs : List Fr) : List (List UInt8) := fs.flatMap fun f => f.reads.map (·.tag)
structure TP (l D : List (List UInt8)) : Prop where
 nd : l.Nodup
 le : l.length ≤ 40
 sub : ∀ t ∈ l, t ∈ D
 all : l.length < 40 → ∀ t ∈ D, t ∈ l
theorem TP.nil : TP [] [] := ⟨List.Pairwise.nil, by simp, fun t h => h, fun _ t h => h⟩
theorem TP.full {l D D' : List (List UInt8)} (h : TP l D) (hl : l.length = 40) : TP l (D ++ D') := ⟨h.nd, h.le, fun t ht => List.mem_append_left _ (h.sub t ht), fun e => by omega⟩
theorem TP.old {l D : List (List UInt8)} {t : List UInt8} (h : TP l D) (ht : t ∈ l) : TP l (D ++ [t]) := ⟨h.nd, h.le, fun x hx => List.mem_append_left _ (h.sub x hx), fun e x hx => by
 rcases List.mem_append.1 hx with hx | hx
 ·exact h.all e x hx
 ·rw [List.mem_singleton.1 hx]; exact ht⟩
theorem TP.new {l D : List (List UInt8)} {t : List UInt8} (h : TP l D) (ht : t ∉ l) (hl : l.length < 40) : TP (l ++ [t]) (D ++ [t]) := ⟨List.nodup_append.2 ⟨h.nd, by simp, fun x hx y hy e => by simp at hy; subst hy; subst e; exact ht hx⟩, by simp; omega, fun x hx => by
 rcases List.mem_append.1 hx with hx | hx
 ·exact List.mem_append_left _ (h.sub x hx)
 ·exact List.mem_append_right _ hx, fun _ x hx => by
 rcases List.mem_append.1 hx with hx | hx
 ·exact List.mem_append_left _ (h.all hl x hx)
 ·exact List.mem_append_right _ hx⟩
structure LF (F : Nat → Value) (ln : Nat → List UInt8 × Nat) : Prop where
 l1 : ∀ k, k < 4 → F (2 * k) = .string (str (ln k).1)
 l2 : ∀ k, k < 4 → F (2 * k + 1) = .int .i64 ((ln k).2 : Nat)
theorem LF.line {F : Nat → Value} {ln : Nat → List UInt8 × Nat} (h : LF F ln) (k : Nat) (hk : k < 4) (a : List UInt8) (n : Nat) : LF (upF (upF F (2 * k) (.string (str a))) (2 * k + 1) (.int .i64 (n : Nat))) (upN ln k (a, n)) where
 l1 := fun j hj => by
  rw [upF_ne oM]
  by_cases e : j = k
  ·subst e; rw [upF_eq, upN_eq]
  ·rw [upF_ne oM, upN_ne e]; exact h.l1 j hj
 l2 := fun j hj => by
  by_cases e : j = k
  ·subst e; rw [upF_eq, upN_eq]
  ·rw [upF_ne oM, upF_ne oM, upN_ne e]; exact h.l2 j hj
end Go.Cw
namespace Go.Cw
open Go
theorem keeps.obj {a : Addr} {n : Nat} {h h' : Heap} (k : keeps a n h h') {b : Addr} {cs : List Value} (ho : objAt h b cs) (hn : b.block ≠ a.block) : objAt h' b cs := by
 obtain ⟨h1, c, t, h2, h3, h4⟩ := ho
 exact ⟨h1, c, t, k.1 _ _ hn h2, h3, h4⟩
theorem Wa.read_ln (w : Wa) (r : Nat) (d : Rd) (X : Nat → List UInt8 × Nat) : ({ w with ln := X } : Wa).read r d = { w.read r d with ln := X } := by
 unfold Wa.read
 dsimp only
 split
 ·rfl
 split
 ·rfl
 split
 ·rfl
 split <;> rfl
theorem Wa.reads_ln (l : List Rd) : ∀ (w : Wa) (r : Nat) (X : Nat → List UInt8 × Nat), l.foldl (fun w d => w.read r d) { w with ln := X } = { l.foldl (fun w d => w.read r d) w with ln := X } := by
 induction l with
 | nil => intro w r X; rfl
 | cons d l ih => intro w r X; rw [List.foldl_cons, List.foldl_cons, Wa.read_ln, ih]
theorem Wa.frame_ln (w : Wa) (r : Nat) (f : Fr) (X : Nat → List UInt8 × Nat) : ({ w with ln := X } : Wa).frame r f = { w.frame r f with ln := X } := by
 unfold Wa.frame
 rw [Wa.reads_ln]
 dsimp only
 split <;> rfl
theorem Wa.frames_ln (l : List Fr) : ∀ (w : Wa) (r : Nat) (X : Nat → List UInt8 × Nat), l.foldl (fun w f => w.frame r f) { w with ln := X } = { l.foldl (fun w f => w.frame r f) w with ln := X } := by
 induction l with
 | nil => intro w r X; rfl
 | cons d l ih => intro w r X; rw [List.foldl_cons, List.foldl_cons, Wa.frame_ln, ih]
theorem Wa.feed_eq (w : Wa) (r : Nat) (s : List UInt8) : w.feed r s = { (Cw.feed ((w.ln r).1 ++ s)).1.foldl (fun w f => w.frame r f) w with ln := upN w.ln r ((Cw.feed ((w.ln r).1 ++ s)).2.1, (w.ln r).2 + (Cw.feed ((w.ln r).1 ++ s)).2.2) } := by
 unfold Wa.feed Wa.line
 rw [Wa.frames_ln]
theorem disj_new {g h h' g' : Heap} (st : Step (fun _ => none) h g' h') (hg : Heap.le g h) : disj g g' := by
 intro b hb
 exact st.fresh b (fun e => hb (le_none hg b e)) rfl
theorem Step.le0 {h g' h' : Heap} (st : Step (fun _ => none) h g' h') : Heap.le h h' := fun b o hb => st.frame b o hb rfl
def ruTy2 : Ty := .cons .str (.cons .int (.cons .int (.cons .int (.cons .int (.cons .int .nil)))))
theorem mat_rl {w : World} (cs : List Value) (h : Mat w ruTy2 cs) : ∃ x : Rl, True ∧ cs = x.enc := by
 obtain ⟨k, r0, e0, _, h⟩ := mat_str h
 obtain ⟨a, r1, e1, h⟩ := mat_int h
 obtain ⟨b, r2, e2, h⟩ := mat_int h
 obtain ⟨c, r3, e3, h⟩ := mat_int h
 obtain ⟨d, r4, e4, h⟩ := mat_int h
 obtain ⟨e, r5, e5, h⟩ := mat_int h
 cases h
 exact ⟨⟨k, a, b, c, d, e⟩, trivial, by rw [e0, e1, e2, e3, e4, e5]; rfl⟩
theorem mat_rls {w : World} {v : Value} (h : Mat w (.sl ruTy2) [v]) : ∃ L : List Rl, Sl Rl.enc (full w) v L := by
 obtain ⟨L, h1, _⟩ := mat_sl mat_rl h
 exact ⟨L, h1⟩
def row4 (t : Ty) : Ty := .cons t (.cons t (.cons t (.cons t .nil)))
def cfgTy : Ty := .cons .int (.cons .int (.cons .int (.cons .int (.cons .int (.cons .int (.cons (row4 (row4 .int)) .nil))))))
theorem mat_row {w : World} {cs : List Value} (h : Mat w (row4 .int) cs) : ∃ a b c d, cs = [.int .i64 a, .int .i64 b, .int .i64 c, .int .i64 d] := by
 obtain ⟨a, r1, e1, h⟩ := mat_int h
 obtain ⟨b, r2, e2, h⟩ := mat_int h
 obtain ⟨c, r3, e3, h⟩ := mat_int h
 obtain ⟨d, r4, e4, h⟩ := mat_int h
 cases h
 exact ⟨a, b, c, d, by rw [e1, e2, e3, e4]⟩
theorem mat_cfg {w : World} {cs : Array Value} (h : Mat w cfgTy cs.toList) : ∃ c : Nat → Int, .agg cs = aggC c := by
 obtain ⟨a0, r0, q0, h⟩ := mat_int h
 obtain ⟨a1, r1, q1, h⟩ := mat_int h
 obtain ⟨a2, r2, q2, h⟩ := mat_int h
 obtain ⟨a3, r3, q3, h⟩ := mat_int h
 obtain ⟨a4, r4, q4, h⟩ := mat_int h
 obtain ⟨a5, r5, q5, h⟩ := mat_int h
 obtain ⟨x, y, q6, h, hn⟩ := h
 cases hn
 obtain ⟨x0, y0, z0, h0, h⟩ := h
 obtain ⟨x1, y1, z1, h1, h⟩ := h
 obtain ⟨x2, y2, z2, h2, h⟩ := h
 obtain ⟨x3, y3, z3, h3, h⟩ := h
 cases h
 obtain ⟨b0, b1, b2, b3, w0⟩ := mat_row h0
 obtain ⟨c0, c1, c2, c3, w1⟩ := mat_row h1
 obtain ⟨d0, d1, d2, d3, w2⟩ := mat_row h2
 obtain ⟨g0, g1, g2, g3, w3⟩ := mat_row h3
 refine ⟨fun k => ([a0, a1, a2, a3, a4, a5, b0, b1, b2, b3, c0, c1, c2, c3, d0, d1, d2, d3, g0, g1, g2, g3] : List Int).getD k 0, ?_⟩
 have : cs = cs.toList.toArray := rfl
 rw [this, q0, q1, q2, q3, q4, q5, q6, z0, z1, z2, z3, w0, w1, w2, w3]
 rfl
def S175 : Spec := fun args h K => ∃ gm bm window need E r s e, args = [.pointer (some ⟨bm, 0, none⟩), aggR r, .string (str s), .int .i64 e] ∧ RT gm bm window need E ∧ Heap.le gm h ∧ MOkE window need E ∧ s.length ≤ 1000000 ∧ E.length ≤ 1000 ∧ r.name.length ≤ 10000000 ∧ (-1000000 ≤ e ∧ e ≤ 1000000) ∧
 ∀ gm' h', Step gm h gm' h' → RT gm' bm window need E → K (.bool (holdR window need E r s e)) h'
theorem F175_ok {N : Num} {Γ : Ctx} [GoodC Γ] (H83 : Sat S83 (Γ 83)) (H168 : Sat S168 (Γ 168)) (H53 : Sat S53 (Γ 53)) (H70 : Sat S70 (Γ 70)) : Sat S175 (SF N Γ F175) := by
 rintro _ h K ⟨gm, bm, window, need, E, r, s, e, rfl, hM, hgm, hok, hsl, hEl, hnl, he, hK⟩
 refine i_fun rfl ?_
 simp only [F175, Ze, Nat.reduceSub, Nat.reduceAdd, aggR]
 unfold holdR at hK
 refine sw0 ?_
 refine i_call H83 ⟨s, rfl, fun h1 hle1 => ?_⟩
 have hst1 := Step.more hgm hle1
 refine sw0 ?_
 refine i_call H168 ⟨r, rfl, ?_⟩
 by_cases hf : ruleF r = 0
 rotate_left
 ·obtain ⟨f, hf'⟩ := Nat.exists_eq_succ_of_ne_zero hf
  rw [decide_eq_false hf] at hK
  simp only [Bool.false_and] at hK
  rw [hf']
  have hpos : ((0 : Int) < ((f + 1 : Nat) : Int)) = True := by rw [eq_iff_iff]; exact ⟨fun _ => trivial, fun _ => by omega⟩
  refine sw1 @hpos ?_
  exact hK _ h1 hst1 hM
 rw [decide_eq_true hf] at hK
 rw [hf]
 have hb := (ruleF_zero.1 hf).2.1
 unfold Rl.bound at hb
 have hpos0 : ((0 : Int) < ((0 : Nat) : Int)) = False := by rw [eq_iff_iff]; exact ⟨fun h => by omega, fun h => h.elim⟩
 refine sw1 @hpos0 ?_
 refine i_cond (fun c1 => ?_) (fun c1 => ?_)
 ·refine sw0 ?_
  have : (decide (kindOf s ≠ 0) && decide (r.kind = 0 ∨ kindOf s = r.kind)) = false := by
   rw [← Bool.decide_and, decide_eq_false_iff_not]; omega
  simp only [Bool.true_and, this, Bool.false_and] at hK
  exact hK _ h1 hst1 hM
 have : (decide (kindOf s ≠ 0) && decide (r.kind = 0 ∨ kindOf s = r.kind)) = true := by
  rw [← Bool.decide_and, decide_eq_true_iff]; omega
 simp only [Bool.true_and, this] at hK
 clear this
 refine sw0 ?_
 refine i_call H53 ⟨gm, bm, window, need, E, s, r.thn, e, rfl, hM, hst1.le, hok, hsl, fun gm2 h2 hS2 hM2 => ?_⟩
 have hst2 := hst1.trans hS2
 cases hc : cms window need E s r.thn e with
 | false =>
  rw [hc] at hK
  simp only [Bool.false_and] at hK
  refine sw0 ?_
  exact hK _ h2 hst2 hM2
 | true =>
 obtain ⟨he0, hel, htd⟩ := cms_some hc
 rw [hc] at hK
 simp only [Bool.true_and] at hK
 have hww : IntKind.i64.wrap (e - r.wthn) = e - r.wthn := w64 oM oM
 obtain ⟨en, rfl⟩ : ∃ n : Nat, e = n := ⟨e.toNat, oM⟩
 obtain ⟨lo, hlo⟩ : ∃ lo, lo = ((en : Int) - r.wthn).toNat := ⟨_, rfl⟩
 have hmx : max (0 : Int) ((en : Int) - r.wthn) = (lo : Nat) := oM
 rw [← hlo, Int.toNat_natCast] at hK
 have hiff := scanR_iff (fun x => cms window need E s r.first (x : Nat)) (badR window need E r s) lo en
 refine sw2 @hww @hmx ?_
 refine i_loop (fun n : Nat => [some (.pointer (some ⟨bm, 0, none⟩)), none, some (.string (str s)), some (.int .i64 (en : Nat)), some (.agg #[.string (str r.name), .int .i64 r.kind, .int .i64 r.first, .int .i64 r.thn, .int .i64 r.wout, .int .i64 r.wthn]), none, none, none, some (.int .i64 (n : Nat)), none, none, none, none, none, none, none, none, none, none, none, none, none, none, none])
  (fun n H => lo ≤ n ∧ n ≤ en ∧ (∀ e0, lo ≤ e0 → e0 < n → ¬ ((fun x => cms window need E s r.first (x : Nat)) e0 = true ∧ ∀ x, e0 < x → x < en → (badR window need E r s) x = false)) ∧ ∃ gm', Step gm h gm' H ∧ RT gm' bm window need E) (fun n => en - n) lo sE ⟨Nat.le_refl _, oM, fun e0 h1 h2 => by omega, gm2, hst2, hM2⟩ ?_
 clear hst2 hM2 hS2 hst1
 rintro n H ⟨hln, hnn, hno, gm3, hst3, hM3⟩
 have hwn : IntKind.i64.wrap ((n : Int) + 1) = ((n + 1 : Nat) : Int) := by rw [w64 oM oM]; omega
 refine sw0 ?_
 refine i_cond (fun c2 => ?_) (fun c2 => ?_)
 rotate_left
 ·have hs : scanR (fun x => cms window need E s r.first (x : Nat)) (badR window need E r s) lo en = false := by
   cases hh : scanR (fun x => cms window need E s r.first (x : Nat)) (badR window need E r s) lo en with
   | false => rfl
   | true =>
    obtain ⟨e0, q1, q2, q3, q4⟩ := hiff.1 hh
    exact absurd ⟨q3, q4⟩ (hno e0 q1 oM)
  rw [hs] at hK
  refine sw0 ?_
  exact hK _ H hst3 hM3
 refine sw0 ?_
 refine i_call H53 ⟨gm3, bm, window, need, E, s, r.first, (n : Nat), rfl, hM3, hst3.le, hok, hsl, fun gm4 h4 hS4 hM4 => ?_⟩
 have hst4 := hst3.trans hS4
 refine sw1 @hwn ?_
 refine i_meet_blk (fun env H => (∃ gm', Step gm h gm' H ∧ RT gm' bm window need E) ∧ ∃ cm : Bool, (cm = true ↔ (fun x => cms window need E s r.first (x : Nat)) n = true ∧ ∀ x, n < x → x < en → (badR window need E r s) x = false) ∧ env = [some (.pointer (some ⟨bm, 0, none⟩)), none, some (.string (str s)), some (.int .i64 (en : Nat)), some (.agg #[.string (str r.name), .int .i64 r.kind, .int .i64 r.first, .int .i64 r.thn, .int .i64 r.wout, .int .i64 r.wthn]), none, none, none, some (.int .i64 (n : Nat)), some (.bool cm), none, none, none, none, none, none, none, none, none, none, none, none, none, none]) ?_ ?_
 rotate_left
 ·refine i_loop (fun x : Nat × Bool => [some (.pointer (some ⟨bm, 0, none⟩)), none, some (.string (str s)), some (.int .i64 (en : Nat)), some (.agg #[.string (str r.name), .int .i64 r.kind, .int .i64 r.first, .int .i64 r.thn, .int .i64 r.wout, .int .i64 r.wthn]), none, none, none, some (.int .i64 (n : Nat)), some (.bool x.2), some (.int .i64 (x.1 : Nat)), none, none, none, none, none, none, none, none, none, none, none, none, none])
   (fun x H => n < x.1 ∧ x.1 ≤ en + 1 ∧ (x.2 = true ↔ (fun x => cms window need E s r.first (x : Nat)) n = true ∧ ∀ y, n < y → y < x.1 → y < en → (badR window need E r s) y = false) ∧ ∃ gm', Step gm h gm' H ∧ RT gm' bm window need E) (fun x => en + 1 - x.1) (n + 1, cms window need E s r.first (n : Nat)) (by dsimp only; try simp only [Pf]) ⟨dM, dM, ⟨fun h => ⟨h, fun y h1 h2 => by dsimp only at h2; omega⟩, fun h => h.1⟩, gm4, hst4, hM4⟩ ?_
  clear hst4 hM4 hS4 hst3 hM3
  rintro ⟨x, cm⟩ H2 ⟨hx1, hx2, hcm, gm5, hst5, hM5⟩
  dsimp only at hx1 hx2 hcm ⊢
  have hwx : IntKind.i64.wrap ((x : Int) + 1) = ((x + 1 : Nat) : Int) := by rw [w64 oM oM]; omega
  by_cases hxe : x < en
  rotate_left
  ·have q1 : ((x : Int) < (en : Nat)) = False := by rw [eq_iff_iff]; exact ⟨fun h => by omega, fun h => h.elim⟩
   refine sw1 @q1 ?_
   exact k_meet _ sE ⟨⟨gm5, hst5, hM5⟩, cm, hcm.trans ⟨fun ⟨h1, h2⟩ => ⟨h1, fun y h3 h4 => h2 y h3 oM h4⟩, fun ⟨h1, h2⟩ => ⟨h1, fun y h3 _ h4 => h2 y h3 h4⟩⟩, rfl⟩
  have q1 : ((x : Int) < (en : Nat)) = True := by rw [eq_iff_iff]; exact ⟨fun h => trivial, fun h => by omega⟩
  cases cm with
  | false =>
   refine sw1 @q1 ?_
   refine k_meet _ sE ⟨⟨gm5, hst5, hM5⟩, false, ⟨fun h => (by cases h), fun ⟨h1, h2⟩ => hcm.2 ⟨h1, fun y h3 h4 h5 => h2 y h3 h5⟩⟩, rfl⟩
  | true =>
  have hcm' := hcm.1 rfl
  by_cases hwo : 0 ≤ r.wout
  rotate_left
  ·have q2 : (0 ≤ r.wout) = False := by rw [eq_iff_iff]; exact ⟨fun h => hwo h, fun h => h.elim⟩
   refine sw2 @q1 @q2 ?_
   refine i_le (le_one (Heap.le.refl _)) ?_
   refine sw1 @hwx ?_
   refine k_loop (x + 1, true) dM (by dsimp only; try simp only [Pf]) ⟨dM, dM, ⟨fun _ => ⟨hcm'.1, fun y h3 h4 h5 => ?_⟩, fun _ => rfl⟩, gm5, hst5, hM5⟩
   exact decide_eq_false fun h => hwo h.1
  have q2 : (0 ≤ r.wout) = True := by rw [eq_iff_iff]; exact ⟨fun h => trivial, fun h => hwo⟩
  refine sw2 @q1 @q2 ?_
  refine i_call H70 ⟨gm5, bm, window, need, E, s, x, rfl, hM5, hst5.le, hok, hsl, oM, fun gm6 h6 hS6 hM6 => ?_⟩
  have hst6 := hst5.trans hS6
  refine i_lex (fun _ => none) (fun x o hx => by cases hx) ?_ (le_one fun x o hx => by cases hx) ?_
  ·intro l' hl'
   simp only [List.mem_singleton] at hl'
   subst hl'
   exact ⟨true, by try simp (disch := first | omega | (simp only [PL]; omega)) only [Zr, simprocAttr, -reduceIte, q2], fun _ => ⟨.v (.int .i64 r.wout), by try simp (disch := first | omega | (simp only [PL]; omega)) only [Zr, simprocAttr, -reduceIte]⟩⟩
  refine sw0 ?_
  refine i_cond (fun c3 => ?_) (fun c3 => ?_)
  ·have hbd : (badR window need E r s) x = true := decide_eq_true ⟨hwo, c3⟩
   refine sw1 @hwx ?_
   refine k_loop (x + 1, false) dM (by dsimp only; try simp only [Pf]) ⟨dM, dM, ⟨fun h => (by cases h), fun ⟨h1, h2⟩ => ?_⟩, gm6, hst6, hM6⟩
   have := h2 x oM dM hxe
   rw [hbd] at this; cases this
  ·have hbd : (badR window need E r s) x = false := decide_eq_false fun h => c3 h.2
   refine sw1 @hwx ?_
   refine k_loop (x + 1, true) dM (by dsimp only; try simp only [Pf]) ⟨dM, dM, ⟨fun _ => ⟨hcm'.1, fun y h3 h4 h5 => ?_⟩, fun _ => rfl⟩, gm6, hst6, hM6⟩
   by_cases ey : y = x
   ·rw [ey]; exact hbd
   ·exact hcm'.2 y h3 (by dsimp only at h4; omega) h5
 clear hst4 hM4 hS4 hst3 hM3
 rintro env H2 ⟨⟨gm5, hst5, hM5⟩, cm, hcm, rfl⟩
 refine sw0 ?_
 cases cm with
 | true =>
  have hs : scanR (fun x => cms window need E s r.first (x : Nat)) (badR window need E r s) lo en = true := hiff.2 ⟨n, hln, oM, (hcm.1 rfl).1, (hcm.1 rfl).2⟩
  rw [hs] at hK
  refine sw0 ?_
  exact hK _ H2 hst5 hM5
 | false =>
  refine sw1 @hwn ?_
  refine k_loop (n + 1) oM sE ⟨oM, oM, fun e0 h1 h2 h3 => ?_, gm5, hst5, hM5⟩
  by_cases ee : e0 = n
  ·subst ee
   have := hcm.2 h3
   cases this
  ·exact hno e0 h1 oM h3
structure MF (F : Nat → Value) (w : Wa) (rv av kv : Value) (bm : Nat) : Prop where
 c : ∀ k, k < 22 → F (k) = .int .i64 (w.c k)
 r : F 22 = rv
 l1 : ∀ k, k < 4 → F (23 + 2 * k) = .string (str (w.ln k).1)
 l2 : ∀ k, k < 4 → F (24 + 2 * k) = .int .i64 ((w.ln k).2 : Nat)
 wm : ∀ k, k < 4 → F (31 + k) = .int .i64 (w.wm k)
 sz : F 35 = .int .i64 (w.c 0)
 la : F 36 = .int .i64 (w.c 1)
 nw : F 37 = .int .i64 (w.now : Nat)
 al : F 38 = av
 t : F 39 = .pointer (some ⟨bm, 0, none⟩)
 kn : F 40 = kv
 dr : ∀ k, k < 5 → F (41 + k) = .int .i64 (w.dr k : Nat)
theorem MF.drop {F : Nat → Value} {w : Wa} {rv av kv : Value} {bm : Nat} (h : MF F w rv av kv bm) (k : Nat) (hk : k < 5) (n : Nat) : MF (upF F (41 + k) (.int .i64 (n : Nat))) ({ w with dr := upN w.dr k n }) rv av kv bm where
 c := fun j hj => by rw [upF_ne oM]; exact h.c j hj
 r := by rw [upF_ne oM]; exact h.r
 l1 := fun j hj => by rw [upF_ne oM]; exact h.l1 j hj
 l2 := fun j hj => by rw [upF_ne oM]; exact h.l2 j hj
 wm := fun j hj => by rw [upF_ne oM]; exact h.wm j hj
 sz := by rw [upF_ne oM]; exact h.sz
 la := by rw [upF_ne oM]; exact h.la
 nw := by rw [upF_ne oM]; exact h.nw
 al := by rw [upF_ne oM]; exact h.al
 t := by rw [upF_ne oM]; exact h.t
 kn := by rw [upF_ne oM]; exact h.kn
 dr := fun j hj => by
  by_cases e : j = k
  ·subst e; rw [upF_eq]; simp only [upN_eq]
  ·rw [upF_ne oM]; simp only [upN_ne e]; exact h.dr j hj
theorem MF.warm {F : Nat → Value} {w : Wa} {rv av kv : Value} {bm : Nat} (h : MF F w rv av kv bm) (k : Nat) (hk : k < 4) (n : Int) : MF (upF F (31 + k) (.int .i64 n)) ({ w with wm := upN w.wm k n }) rv av kv bm where
 c := fun j hj => by rw [upF_ne oM]; exact h.c j hj
 r := by rw [upF_ne oM]; exact h.r
 l1 := fun j hj => by rw [upF_ne oM]; exact h.l1 j hj
 l2 := fun j hj => by rw [upF_ne oM]; exact h.l2 j hj
 wm := fun j hj => by
  by_cases e : j = k
  ·subst e; rw [upF_eq]; simp only [upN_eq]
  ·rw [upF_ne oM]; simp only [upN_ne e]; exact h.wm j hj
 sz := by rw [upF_ne oM]; exact h.sz
 la := by rw [upF_ne oM]; exact h.la
 nw := by rw [upF_ne oM]; exact h.nw
 al := by rw [upF_ne oM]; exact h.al
 t := by rw [upF_ne oM]; exact h.t
 kn := by rw [upF_ne oM]; exact h.kn
 dr := fun j hj => by rw [upF_ne oM]; exact h.dr j hj
theorem MF.line {F : Nat → Value} {w : Wa} {rv av kv : Value} {bm : Nat} (h : MF F w rv av kv bm) (k : Nat) (hk : k < 4) (a : List UInt8) (n : Nat) : MF (upF (upF F (23 + 2 * k) (.string (str a))) (23 + 2 * k + 1) (.int .i64 (n : Nat))) ({ w with ln := upN w.ln k (a, n) }) rv av kv bm where
 c := fun j hj => by rw [upF_ne oM, upF_ne oM]; exact h.c j hj
 r := by rw [upF_ne oM, upF_ne oM]; exact h.r
 l1 := fun j hj => by
  rw [upF_ne oM]
  by_cases e : j = k
  ·subst e; rw [upF_eq]; simp only [upN_eq]
  ·rw [upF_ne oM]; simp only [upN_ne e]; exact h.l1 j hj
 l2 := fun j hj => by
  by_cases e : j = k
  ·subst e; rw [show 24 + 2 * j = 23 + 2 * j + 1 by omega, upF_eq]; simp only [upN_eq]
  ·rw [upF_ne oM, upF_ne oM]; simp only [upN_ne e]; exact h.l2 j hj
 wm := fun j hj => by rw [upF_ne oM, upF_ne oM]; exact h.wm j hj
 sz := by rw [upF_ne oM, upF_ne oM]; exact h.sz
 la := by rw [upF_ne oM, upF_ne oM]; exact h.la
 nw := by rw [upF_ne oM, upF_ne oM]; exact h.nw
 al := by rw [upF_ne oM, upF_ne oM]; exact h.al
 t := by rw [upF_ne oM, upF_ne oM]; exact h.t
 kn := by rw [upF_ne oM, upF_ne oM]; exact h.kn
 dr := fun j hj => by rw [upF_ne oM, upF_ne oM]; exact h.dr j hj
theorem MF.now {F : Nat → Value} {w : Wa} {rv av kv : Value} {bm : Nat} (h : MF F w rv av kv bm) (n : Nat) : MF (upF F 37 (.int .i64 (n : Nat))) ({ w with now := n }) rv av kv bm where
 c := fun j hj => by rw [upF_ne oM]; exact h.c j hj
 r := by rw [upF_ne oM]; exact h.r
 l1 := fun j hj => by rw [upF_ne oM]; exact h.l1 j hj
 l2 := fun j hj => by rw [upF_ne oM]; exact h.l2 j hj
 wm := fun j hj => by rw [upF_ne oM]; exact h.wm j hj
 sz := by rw [upF_ne oM]; exact h.sz
 la := by rw [upF_ne oM]; exact h.la
 nw := by rw [upF_eq]
 al := by rw [upF_ne oM]; exact h.al
 t := by rw [upF_ne oM]; exact h.t
 kn := by rw [upF_ne oM]; exact h.kn
 dr := fun j hj => by rw [upF_ne oM]; exact h.dr j hj
theorem MF.all {F : Nat → Value} {w : Wa} {rv av kv : Value} {bm : Nat} (h : MF F w rv av kv bm) (l : List Si) (v : Value) : MF (upF F 38 v) ({ w with A := l }) rv v kv bm where
 c := fun j hj => by rw [upF_ne oM]; exact h.c j hj
 r := by rw [upF_ne oM]; exact h.r
 l1 := fun j hj => by rw [upF_ne oM]; exact h.l1 j hj
 l2 := fun j hj => by rw [upF_ne oM]; exact h.l2 j hj
 wm := fun j hj => by rw [upF_ne oM]; exact h.wm j hj
 sz := by rw [upF_ne oM]; exact h.sz
 la := by rw [upF_ne oM]; exact h.la
 nw := by rw [upF_ne oM]; exact h.nw
 al := by rw [upF_eq]
 t := by rw [upF_ne oM]; exact h.t
 kn := by rw [upF_ne oM]; exact h.kn
 dr := fun j hj => by rw [upF_ne oM]; exact h.dr j hj
theorem MF.known {F : Nat → Value} {w : Wa} {rv av kv : Value} {bm : Nat} (h : MF F w rv av kv bm) (l : List (List UInt8)) (v : Value) : MF (upF F 40 v) ({ w with kn := l }) rv av v bm where
 c := fun j hj => by rw [upF_ne oM]; exact h.c j hj
 r := by rw [upF_ne oM]; exact h.r
 l1 := fun j hj => by rw [upF_ne oM]; exact h.l1 j hj
 l2 := fun j hj => by rw [upF_ne oM]; exact h.l2 j hj
 wm := fun j hj => by rw [upF_ne oM]; exact h.wm j hj
 sz := by rw [upF_ne oM]; exact h.sz
 la := by rw [upF_ne oM]; exact h.la
 nw := by rw [upF_ne oM]; exact h.nw
 al := by rw [upF_ne oM]; exact h.al
 t := by rw [upF_ne oM]; exact h.t
 kn := by rw [upF_eq]
 dr := fun j hj => by rw [upF_ne oM]; exact h.dr j hj
theorem MF.same {F : Nat → Value} {w w' : Wa} {rv av kv : Value} {bm : Nat} (h : MF F w rv av kv bm) (e1 : w'.c = w.c) (e2 : w'.ln = w.ln) (e3 : w'.wm = w.wm) (e4 : w'.dr = w.dr) (e5 : w'.now = w.now) : MF F w' rv av kv bm where
 c := fun j hj => by rw [e1]; exact h.c j hj
 r := by exact h.r
 l1 := fun j hj => by rw [e2]; exact h.l1 j hj
 l2 := fun j hj => by rw [e2]; exact h.l2 j hj
 wm := fun j hj => by rw [e3]; exact h.wm j hj
 sz := by rw [e1]; exact h.sz
 la := by rw [e1]; exact h.la
 nw := by rw [e5]; exact h.nw
 al := by exact h.al
 t := by exact h.t
 kn := by exact h.kn
 dr := fun j hj => by rw [e4]; exact h.dr j hj
structure MP (p : Nat) (w : Wa) (F : Nat → Value) (rv av kv : Value) (bm : Nat) (gw gr ga gt gk : Heap) : Prop where
 ob : objF gw p 46 F
 mf : MF F w rv av kv bm
 rs : Sl Rl.enc gr rv w.rs
 all : SlB (enc5 (w.c 0).toNat) 5 ga av w.A
 tr : RT gt bm (w.c 2).toNat (w.c 3).toNat w.E
 kn : SlB encT 1 gk kv w.kn
def MO (g : Heap) (p : Nat) (w : Wa) : Prop := ∃ F rv av kv bm gw gr ga gt gk, Ps g [gw, gr, ga, gt, gk] ∧ MP p w F rv av kv bm gw gr ga gt gk
theorem MO.of {g h H' : Heap} {p : Nat} {w : Wa} {F : Nat → Value} {rv av kv : Value} {bm : Nat} {gw gr ga gt gk : Heap} (hg : Heap.le g h) (ps : Ps H' [rest g h, gw, gr, ga, gt, gk]) (wp : MP p w F rv av kv bm gw gr ga gt gk) :
  ∃ g', Step g h g' H' ∧ MO g' p w := ⟨_, ps.toStep hg, F, rv, av, kv, bm, gw, gr, ga, gt, gk, (ps.drop 1).sub, wp⟩
theorem MO.read {g h : Heap} {p : Nat} {w : Wa} (hw : MO g p w) (hg : Heap.le g h) : ∃ F rv av kv bm gw gr ga gt gk, Ps h [gw, gr, ga, gt, gk] ∧ MP p w F rv av kv bm gw gr ga gt gk := by
 obtain ⟨F, rv, av, kv, bm, gw, gr, ga, gt, gk, hps, hp⟩ := hw
 exact ⟨F, rv, av, kv, bm, gw, gr, ga, gt, gk, hps.up hg, hp⟩
section
variable {p : Nat} {w : Wa} {F : Nat → Value} {rv av kv : Value} {bm : Nat} {gw gr ga gt gk : Heap}
theorem add_add' {p o : Nat} (i j : Nat) : ((⟨p, o, none⟩ : Addr).add i).add j = (⟨p, o, none⟩ : Addr).add (i + j) := by
 rw [addr_add' ⟨p, o, none⟩ rfl (i), addr_add' ⟨p, o, none⟩ rfl, addr_add' _ rfl, Nat.add_assoc]
theorem MP.c41 (h : MP p w F rv av kv bm gw gr ga gt gk) {H : Heap} (hl : Heap.le gw H) {k : Nat} (hk : k < 5) : H.cell (((⟨p, 0, none⟩ : Addr).add 41).add k) = some (.int .i64 (w.dr k : Nat)) := by
 have := (h.ob.le hl).cell (j := 41 + k) oM
 rw [h.mf.dr k hk] at this
 rw [← this, add_add']
theorem MP.cWh (h : MP p w F rv av kv bm gw gr ga gt gk) {H : Heap} (hl : Heap.le gw H) {r a : Nat} (hr : r < 4) (ha : a < 4) : H.cell (((((⟨p, 0, none⟩ : Addr).add 0).add 6).add (r * 4)).add a) = some (.int .i64 (w.c (6 + (4 * r + a)))) := by
 have := (h.ob.le hl).cell (j := 6 + (4 * r + a)) oM
 rw [h.mf.c _ oM] at this
 rw [← this, show (((⟨p, 0, none⟩ : Addr).add 0).add 6) = (⟨p, 0, none⟩ : Addr).add 6 from rfl, add_add', add_add', show 6 + r * 4 + a = 6 + (4 * r + a) by omega]
theorem MP.cell (h : MP p w F rv av kv bm gw gr ga gt gk) {H : Heap} (hl : Heap.le gw H) {j : Nat} (hj : j < 46) : H.cell ((⟨p, 0, none⟩ : Addr).add j) = some (F j) := (h.ob.le hl).cell hj
theorem MP.c22 (h : MP p w F rv av kv bm gw gr ga gt gk) {H : Heap} (hl : Heap.le gw H) : H.cell ((⟨p, 0, none⟩ : Addr).add 22) = some rv := by rw [h.cell hl oM, h.mf.r]
theorem MP.c39 (h : MP p w F rv av kv bm gw gr ga gt gk) {H : Heap} (hl : Heap.le gw H) : H.cell ((⟨p, 0, none⟩ : Addr).add 39) = some (.pointer (some ⟨bm, 0, none⟩)) := by rw [h.cell hl oM, h.mf.t]
theorem MP.c40 (h : MP p w F rv av kv bm gw gr ga gt gk) {H : Heap} (hl : Heap.le gw H) : H.cell ((⟨p, 0, none⟩ : Addr).add 40) = some kv := by rw [h.cell hl oM, h.mf.kn]
end
theorem i_mdrop {N : Num} {Γ : Ctx} {p : Nat} {w : Wa} {F : Nat → Value} {rv av kv : Value} {bm : Nat} {gw gr ga gt gk g h H : Heap} (hg : Heap.le g h) (hps : Ps H [rest g h, gw, gr, ga, gt, gk]) (hw : MP p w F rv av kv bm gw gr ga gt gk) (k : Nat) (hk : k < 5) (n : Nat) {K : Value → Heap → Prop}
  (hK : ∀ g' h', Step g h g' h' → MO g' p { w with dr := upN w.dr k n } → K undef h') : efW N Γ (.st 1) [.pointer (some (((⟨p, 0, none⟩ : Addr).add 41).add k)), .int .i64 (n : Nat)] H K := by
 rw [add_add']
 refine i_stF (x := .int .i64 (n : Nat)) hw.ob (hps.lt 1 rfl) (41 + k) rfl rfl oM fun g' h' st ho => ?_
 have ps := hps.step 1 rfl st
 obtain ⟨g2, q1, q2⟩ := MO.of hg ps { hw with ob := ho, mf := hw.mf.drop k hk n }
 exact hK g2 h' q1 q2
end Go.Cw
namespace Go.Cw
open Go Go.Sort Go.Proofs
def S41m : Spec := fun args h K => ∃ (a : Addr), ∃ size late now : Nat, args = [.pointer (some a)] ∧ h.cell (a.add 0) = some (.int .i64 size) ∧ h.cell (a.add 1) = some (.int .i64 late) ∧ h.cell (a.add 2) = some (.int .i64 now) ∧ 0 < size ∧ size ≤ 1000 ∧ late ≤ 1000 ∧ now ≤ 1000 ∧ K (.int .i64 (clos size late now : Nat)) h
theorem F41m_ok {N : Num} {Γ : Ctx} [GoodC Γ] : Sat S41m (SF N Γ F41) := by
 rintro _ h K ⟨a, size, late, now, rfl, h0, h1, h2, hs1, hs2, hl, hn, hK⟩
 refine i_fun rfl ?_
 simp only [F41, Ze, Nat.reduceSub, Nat.reduceAdd]
 have hcl := clos_le (size := size) (late := late) (now := now)
 refine sw0 ?_
 refine i_loop (fun k : Nat => [some (.pointer (some a)), none, some (.int .i64 (k : Nat)), none]) (fun k H => H = h ∧ k ≤ clos size late now) (fun k => clos size late now - k) 0 (by try simp only [Pf]; rfl) ⟨rfl, oM⟩ ?_
 rintro k H ⟨rfl, hk⟩
 have hw1 : IntKind.i64.wrap ((k : Int) + 1) = ((k + 1 : Nat) : Int) := by rw [w64 oM oM]; omega
 have hb : (k + 1) * size ≤ 1001 * 1000 := Nat.mul_le_mul oM hs2
 have hw2 : IntKind.i64.wrap (((k + 1 : Nat) : Int) * (size : Int)) = (((k + 1) * size : Nat) : Int) := by rw [← Int.natCast_mul, w64 oM oM]
 have hw3 : IntKind.i64.wrap ((((k + 1) * size : Nat) : Int) + late) = (((k + 1) * size + late : Nat) : Int) := by rw [w64 oM oM]; omega
 have hi := clos_iff (late := late) (now := now) (k := k) hs1
 refine sw6 @h0 @h1 @h2 @hw1 @hw2 @hw3 ?_
 refine i_cond (fun c => ?_) (fun c => ?_)
 ·have := hi.1 oM
  refine sw1 @hw1 ?_
  exact k_loop (k + 1) oM sE ⟨rfl, oM⟩
 ·have h9 : ¬ k < clos size late now := fun h => c (by have := hi.2 h; omega)
  have : k = clos size late now := oM
  subst this
  refine sw0 ?_
  exact hK
def S64m : Spec := fun args h K => ∃ a : Addr, ∃ size av A, ∃ n : Nat, args = [.pointer (some a), .int .i64 n] ∧ h.cell (a.add 3) = some av ∧ Sl (enc5 size) h av A ∧ A.length ≤ 2000 ∧
 ∀ v h', OwnS Si.enc 4 h h' v (ofE size A n) → K v h'
theorem F64m_ok {N : Num} {Γ : Ctx} [GoodC Γ] (H78 : Sat S78 (Γ 78)) : Sat S64m (SF N Γ F64) := by
 rintro _ h K ⟨a, size, av, A, n, rfl, h3, hA, hlen, hK⟩
 refine i_fun rfl ?_
 simp only [F64, Ze, Nat.reduceSub, Nat.reduceAdd]
 refine sw0 ?_
 refine i_loop (fun x : Nat × Value => [some (.pointer (some a)), some (.int .i64 n), none, some x.2, some (.int .i64 (x.1 : Nat)), none, none, none, none, none, none, none, none, none, none, none])
  (fun x H => x.1 ≤ A.length ∧ OwnS Si.enc 4 h H x.2 (ofL ((A.take x.1).filter fun s => decide (ep size s = n)))) (fun x => A.length - x.1) (0, .slice none 0 0) (by dsimp only; try simp only [Pf]; rfl) ⟨dM, by simpa [ofL] using OwnS.nil (Heap.le.refl h)⟩ ?_
 rintro ⟨i, v⟩ H ⟨hi, ho⟩
 dsimp only at hi ho ⊢
 have A3 : H.cell ((a : Addr).add 3) = some av := cell_hmono ho.1 h3
 have R := (hA.le ho.1).rules 5 (enc5_len size) default
 have hw : IntKind.i64.wrap ((i : Int) + 1) = ((i + 1 : Nat) : Int) := by rw [w64 oM oM]; omega
 refine sw2 @A3 @R ?_
 refine i_cond (fun c1 => ?_) (fun c1 => ?_)
 rotate_left
 ·have : i = A.length := oM
  subst this
  rw [List.take_length] at ho
  refine sw0 ?_
  exact hK v H ho
 have hi2 : i < A.length := oM
 have hnx := ofE_take (size := size) (n := n) hi2
 generalize hs : A.getD i default = s at *
 refine sw4 @A3 @R @hs @enc5.eq_1 ?_
 refine i_cond (fun c2 => ?_) (fun c2 => ?_)
 ·rw [if_neg oM, List.append_nil] at hnx
  refine sw1 @hw ?_
  exact k_loop (i + 1, v) dM (by dsimp only; try simp only [Pf]) ⟨dM, by dsimp only; rw [hnx]; exact ho⟩
 rw [if_pos oM] at hnx
 have hll : (ofL ((A.take i).filter fun s => decide (ep size s = n))).length ≤ i := by
  rw [ofL_len]; exact Nat.le_trans (List.length_filter_le _ _) (by rw [List.length_take]; omega)
 generalize hfl : (A.take i).filter (fun s => decide (ep size s = n)) = fl at *
 have hsn : ofL (fl ++ [s]) = insS (ofL fl) s := ofL_snoc fl s
 generalize ofL fl = l at *
 have R4 := (hA.le ho.1).row4 hi2
 rw [hs] at R4
 have hlen2 : l.length ≤ 2000 := oM
 have O1 := ho.one
 refine sw4 @A3 @R @R4 ((ho.sl Si.enc_len).rules 4 Si.enc_len default) ?_
 refine i_bslB Si.enc 4 Si.enc_len [s] rfl rfl (by simp [maxLen]) fun x1 b1 H2 hle2 hb1 hx1 hS1 => ?_
 have O2 := hS1.one
 refine sw2 O2.1 O2.2 ?_
 refine i_app Si.enc_len Si.enc_one (ho.le hle2) (SlB.sl Si.enc_len (hS1.le (fr_le _ _))) (by simp; omega) fun v2 H3 ho3 => ?_
 refine sw0 ?_
 have hsp := posS_le l s l.length
 refine i_meet_blk (fun env H4 => ∃ y, OwnS Si.enc 4 h H4 v2 (l.take (posS l s l.length) ++ y :: l.drop (posS l s l.length)) ∧ env = [some (.pointer (some a)), some (.int .i64 n), none, some v2, some (.int .i64 (i : Nat)), some (.agg #[.int .i64 s.place, .int .i64 s.strength, .int .i64 s.time, .string (str s.tag)]), some (.int .i64 (posS l s l.length : Nat)), none, none, none, none, none, none, none, none, none]) ?_ ?_
 rotate_left
 ·refine i_loop (fun k : Nat => [some (.pointer (some a)), some (.int .i64 n), none, some v2, some (.int .i64 (i : Nat)), some (.agg #[.int .i64 s.place, .int .i64 s.strength, .int .i64 s.time, .string (str s.tag)]), some (.int .i64 (k : Nat)), none, none, none, none, none, none, none, none, none])
   (fun k H4 => k ≤ l.length ∧ posS l s k = posS l s l.length ∧ ∃ y, OwnS Si.enc 4 h H4 v2 (l.take k ++ y :: l.drop k)) (fun k => k) l.length sE ⟨Nat.le_refl _, rfl, s, by rw [List.take_length, List.drop_length]; exact ho3⟩ ?_
  rintro k H4 ⟨hk, hpk, y, ho4⟩
  have hLl : (l.take k ++ y :: l.drop k).length = l.length + 1 := by simp; omega
  have R5 := (ho4.sl Si.enc_len).rules 4 Si.enc_len default
  rw [hLl] at R5
  by_cases hk0 : k = 0
  ·subst hk0
   refine sw0 ?_
   rw [← hpk]
   exact k_meet _ (by try simp only [Pf]; rfl) ⟨y, ho4, rfl⟩
  have hk0' : ((0 : Int) < (k : Int)) = True := by rw [eq_iff_iff]; simp; omega
  have hwk : IntKind.i64.wrap ((k : Int) - 1) = ((k - 1 : Nat) : Int) := by rw [w64 oM oM]; omega
  have hgk : (l.take k ++ y :: l.drop k).getD (k - 1) default = l.getD (k - 1) default := by
   rw [List.getD_eq_getElem?_getD, List.getElem?_append_left (by rw [List.length_take]; omega), List.getElem?_take_of_lt oM, ← List.getD_eq_getElem?_getD]
  obtain ⟨m, rfl⟩ : ∃ m, k = m + 1 := ⟨k - 1, oM⟩
  have hm1 : m + 1 - 1 = m := oM
  rw [hm1] at hwk hgk
  refine sw5 @hk0' @hwk @R5 @hgk @Si.enc.eq_1 ?_
  refine i_call H78 ⟨s, l.getD m default, rfl, ?_⟩
  cases hb : befS s (l.getD m default) with
  | false =>
   have e : posS l s (m + 1) = m + 1 := by simp only [posS]; rw [if_neg (by rw [hb]; simp)]
   refine sw0 ?_
   exact k_meet _ (by rw [← hpk, e]; try simp only [Pf]) ⟨y, by rw [← hpk, e]; exact ho4, rfl⟩
  | true =>
   have e : posS l s (m + 1) = posS l s m := by simp only [posS]; rw [if_pos hb]
   refine sw4 @hwk @R5 @hgk @Si.enc.eq_1 ?_
   refine i_stS (enc := Si.enc) (sz := 4) Si.enc_len (l.getD m default) rfl ho4 (j := m + 1) (by rw [hLl]; omega) rfl fun H5 ho5 => ?_
   have hset : (l.take (m + 1) ++ y :: l.drop (m + 1)).set (m + 1) (l.getD m default) = l.take m ++ l.getD m default :: l.drop m := by
    have h1 : (l.take (m + 1)).length = m + 1 := by rw [List.length_take]; omega
    rw [List.set_append_right _ _ (by rw [h1]; omega), h1, Nat.sub_self, List.set_cons_zero, take_succ_d default oM, List.append_assoc]
    congr 1
    have h2 : l.drop m = l.getD m default :: l.drop (m + 1) := by
     rw [List.drop_eq_getElem_cons oM, List.getD_eq_getElem?_getD, List.getElem?_eq_getElem oM]; rfl
    rw [h2]; rfl
   rw [hset] at ho5
   refine sw1 @hwk ?_
   exact k_loop m oM sE ⟨oM, by rw [← hpk, e], _, ho5⟩
 rintro env H4 ⟨y, ho4, rfl⟩
 have hLl : (l.take (posS l s l.length) ++ y :: l.drop (posS l s l.length)).length = l.length + 1 := by simp; omega
 have R5 := (ho4.sl Si.enc_len).rules 4 Si.enc_len default
 rw [hLl] at R5
 generalize hpg : posS l s l.length = p at *
 refine sw1 @R5 ?_
 refine i_stS (enc := Si.enc) (sz := 4) Si.enc_len s rfl ho4 (j := p) (by rw [hLl]; omega) rfl fun H5 ho5 => ?_
 have hset : (l.take p ++ y :: l.drop p).set p s = insS l s := by
  have h1 : (l.take p).length = p := by rw [List.length_take]; omega
  unfold insS
  rw [hpg, List.set_append_right _ _ (by rw [h1]; omega), h1, Nat.sub_self, List.set_cons_zero]
 rw [hset] at ho5
 refine sw1 @hw ?_
 exact k_loop (i + 1, v2) dM (by dsimp only; try simp only [Pf]) ⟨dM, by dsimp only; rw [hnx, hsn]; exact ho5⟩
structure MD (F : Nat → Value) (size late now : Nat) (av : Value) : Prop where
 c0 : F 35 = .int .i64 (size : Nat)
 c1 : F 36 = .int .i64 (late : Nat)
 c2 : F 37 = .int .i64 (now : Nat)
 c3 : F 38 = av
def S38m : Spec := fun args h K => ∃ gw ga gs p F, ∃ size late now : Nat, ∃ A s av, args = [.pointer (some ((⟨p, 0, none⟩ : Addr).add 35)), aggS s] ∧ Ps h (gw :: ga :: gs) ∧ objF gw p 46 F ∧ MD F size late now av ∧ SlB (enc5 size) 5 ga av A ∧ 0 < size ∧ size ≤ 1000 ∧ late ≤ 1000 ∧ now ≤ 1000 ∧ A.length < 2000 ∧
 (adF size late now s ≠ 0 → K (.int .i64 (adF size late now s : Nat)) h) ∧ (adF size late now s = 0 → ∀ gw' ga' h' v, Ps h' (gw' :: ga' :: gs) → objF gw' p 46 (upF F 38 v) → SlB (enc5 size) 5 ga' v (A ++ [s]) → K (.int .i64 0) h')
theorem F38m_ok {N : Num} {Γ : Ctx} [GoodC Γ] (H41 : Sat S41m (Γ 41)) : Sat S38m (SF N Γ F38) := by
 rintro _ h K ⟨gw, ga, gs, p, F, size, late, now, A, s, av, rfl, hps, hob, hD, hall, hs1, hs2, hl, hn, hA, hK1, hK2⟩
 refine i_fun rfl ?_
 simp only [F38, Ze, Nat.reduceSub, Nat.reduceAdd, aggS]
 have hcell : ∀ i, i < 4 → h.cell (((⟨p, 0, none⟩ : Addr).add 35).add i) = some (F (35 + i)) := fun i hi => by rw [add_add']; exact (hob.le (hps.lt 0 rfl)).cell oM
 have c0 : h.cell (((⟨p, 0, none⟩ : Addr).add 35).add 0) = some (.int .i64 size) := by rw [hcell 0 oM]; exact congrArg some hD.c0
 have c1 : h.cell (((⟨p, 0, none⟩ : Addr).add 35).add 1) = some (.int .i64 late) := by rw [hcell 1 oM]; exact congrArg some hD.c1
 have c2 : h.cell (((⟨p, 0, none⟩ : Addr).add 35).add 2) = some (.int .i64 now) := by rw [hcell 2 oM]; exact congrArg some hD.c2
 have c3 : h.cell (((⟨p, 0, none⟩ : Addr).add 35).add 3) = some av := by rw [hcell 3 oM]; exact congrArg some hD.c3
 unfold adF at hK1 hK2
 refine sw1 @c2 ?_
 refine i_cond (fun cc => ?_) (fun cc => ?_)
 ·have hb : adBad now s := by unfold adBad; omega
  rw [if_pos hb] at hK1
  refine sw0 ?_
  exact hK1 oM
 have hb : ¬ adBad now s := by unfold adBad; omega
 rw [if_neg hb] at hK1 hK2
 unfold adBad at hb
 obtain ⟨tn, htn⟩ : ∃ tn : Nat, s.time = tn := ⟨s.time.toNat, oM⟩
 have hep : ep size s = tn / size := by unfold ep; rw [htn, Int.toNat_natCast]
 have hq : Int.tdiv (tn : Int) (size : Int) = ((tn / size : Nat) : Int) := rfl
 have htnl : tn / size ≤ tn := Nat.div_le_self _ _
 have hwq : IntKind.i64.wrap ((tn / size : Nat) : Int) = ((tn / size : Nat) : Int) := w64 oM oM
 have hsz0 : ((size : Int) = 0) = False := by rw [eq_iff_iff]; simp; omega
 rw [hep] at hK1 hK2
 rw [htn]
 refine sw4 @c0 @hq @hwq @hsz0 ?_
 refine i_call H41 ⟨_, size, late, now, rfl, c0, c1, c2, hs1, hs2, hl, hn, ?_⟩
 refine i_le (le_one (Heap.le.refl _)) ?_
 refine sw0 ?_
 refine i_cond (fun cc2 => ?_) (fun cc2 => ?_)
 ·rw [if_pos oM] at hK1
  refine sw0 ?_
  exact hK1 oM
 rw [if_neg oM] at hK2
 refine sw5 @c3 @c0 @hq @hwq @hsz0 ?_
 refine i_bslB (enc5 size) 5 (enc5_len size) [s] (by simp [enc5, htn, hep]) rfl (by simp [maxLen]) fun x1 b1 h1 hle1 hb1 hx1 hS1 => ?_
 have O2 := hS1.one
 have OA := hall.one
 have P1' := hps.up hle1
 refine i_le (le_one hle1) ?_
 refine sw4 O2.1 O2.2 OA.1 OA.2 ?_
 refine i_appB (enc := enc5 size) (sz := 5) (g := ga) (l := A) (l' := [s]) (enc5_len size) (by simp [enc5, one]) hall (P1'.lt 1 rfl) (SlB.sl (enc5_len size) (hS1.le (fr_le _ _))) (by simp; omega) fun v2 h2 g2 hS2 St2 e1 e2 e3 => ?_
 have P2' := P1'.step 1 rfl St2
 have O3 := hS2.one
 refine sw2 O3.1 O3.2 ?_
 rw [add_add']
 refine i_stF hob (P2'.lt 0 rfl) 38 O3.2 O3.1 oM fun gw' h3 st3 ho3 => ?_
 have P3' := P2'.step 0 rfl st3
 refine sw0 ?_
 exact hK2 rfl _ _ _ _ P3' ho3 hS2
theorem Outs.fr {Gf H : Heap} {v : Value} {L : List (Nat × List Si)} (a : Outs Gf H v L) : EpsR (fr Gf H) v L := by
 obtain ⟨es, Z, h⟩ := a
 have hZ : Heap.le Z (Cw.fr Gf H) := fun b o hb => by
  have h1 := h.le b o hb
  have h2 := h.fz b (by rw [hb]; simp)
  unfold Cw.fr; rw [h2]; exact h1
 refine ⟨es, SlB.sl encEp_len (h.sl.same fun b hb => ?_), h.len, fun i hi => ⟨(h.el i hi).1, (h.el i hi).2.1.le hZ⟩⟩
 unfold Cw.fr; rw [(h.own b hb).1]
def S35m : Spec := fun args h K => ∃ gw ga gs p F n, ∃ size late now : Nat, ∃ A av, args = [.pointer (some ((⟨p, 0, none⟩ : Addr).add 35)), .int .i64 n] ∧ Ps h (gw :: ga :: gs) ∧ objF gw p 46 F ∧ MD F size late now av ∧ SlB (enc5 size) 5 ga av A ∧ 0 < size ∧ size ≤ 1000 ∧ late ≤ 1000 ∧ now ≤ 1000 ∧ A.length ≤ 2000 ∧
 ((n < 0 ∨ 1000 - (now : Int) < n) → K (.tuple #[.slice none 0 0, .int .i64 1]) h) ∧
 (∀ m : Nat, n = m → now + m ≤ 1000 → ∀ gw' h' v Y, Ps h' (gw' :: ga :: gs ++ [Y]) → objF gw' p 46 (upF F 37 (.int .i64 (now + m : Nat))) → EpsR Y v (closE size late now (now + m) A) → K (.tuple #[v, .int .i64 0]) h')
theorem F35m_ok {N : Num} {Γ : Ctx} [GoodC Γ] (H41 : Sat S41m (Γ 41)) (H64 : Sat S64m (Γ 64)) : Sat S35m (SF N Γ F35) := by
 rintro _ h K ⟨gw, ga, gs, p, F, n, size, late, now, A, av, rfl, hps, hob, hD, hall, hs1, hs2, hl, hn, hA, hK1, hK2⟩
 refine i_fun rfl ?_
 simp only [F35, Ze, Nat.reduceSub, Nat.reduceAdd]
 have hcell : ∀ i, i < 4 → h.cell (((⟨p, 0, none⟩ : Addr).add 35).add i) = some (F (35 + i)) := fun i hi => by rw [add_add']; exact (hob.le (hps.lt 0 rfl)).cell oM
 have c0 : h.cell (((⟨p, 0, none⟩ : Addr).add 35).add 0) = some (.int .i64 size) := by rw [hcell 0 oM]; exact congrArg some hD.c0
 have c1 : h.cell (((⟨p, 0, none⟩ : Addr).add 35).add 1) = some (.int .i64 late) := by rw [hcell 1 oM]; exact congrArg some hD.c1
 have c2 : h.cell (((⟨p, 0, none⟩ : Addr).add 35).add 2) = some (.int .i64 now) := by rw [hcell 2 oM]; exact congrArg some hD.c2
 have hw0 : IntKind.i64.wrap (1000 - (now : Int)) = 1000 - (now : Int) := w64 oM oM
 refine sw2 @c2 @hw0 ?_
 refine i_cond (fun cc => ?_) (fun cc => ?_)
 ·refine sw0 ?_
  exact hK1 oM
 obtain ⟨m, rfl⟩ : ∃ m : Nat, n = m := ⟨n.toNat, oM⟩
 have hm : now + m ≤ 1000 := oM
 have hK := hK2 m rfl hm
 clear hK1 hK2
 have hw1 : IntKind.i64.wrap ((now : Int) + m) = ((now + m : Nat) : Int) := by rw [w64 oM oM]; omega
 refine sw0 ?_
 refine i_call H41 ⟨_, size, late, now, rfl, c0, c1, c2, hs1, hs2, hl, hn, ?_⟩
 refine sw2 @c2 @hw1 ?_
 rw [add_add']
 refine i_stF (x := .int .i64 ((now + m : Nat) : Int)) hob (hps.lt 0 rfl) 37 rfl rfl oM fun gw' h1 st1 ho1 => ?_
 have P1' := hps.step 0 rfl st1
 simp only [List.set_cons_zero] at P1'
 clear hcell c0 c1 c2 hps hob
 have hD2 : MD (upF F 37 (.int .i64 ((now + m : Nat) : Int))) size late (now + m) av := ⟨by rw [upF_ne oM]; exact hD.c0, by rw [upF_ne oM]; exact hD.c1, by rw [upF_eq], by rw [upF_ne oM]; exact hD.c3⟩
 have hGf : Heap.le (joinL (gw' :: ga :: gs)) h1 := joinL_le P1'.1
 have hc01 : clos size late now ≤ clos size late (now + m) := Nat.div_le_div_right oM
 have hcl := clos_le (size := size) (late := late) (now := now + m)
 obtain ⟨c0, hc0⟩ : ∃ c, c = clos size late now := ⟨_, rfl⟩
 obtain ⟨c1, hc1⟩ : ∃ c, c = clos size late (now + m) := ⟨_, rfl⟩
 unfold closE at hK
 rw [← hc0, ← hc1] at hc01 hK
 rw [← hc1] at hcl
 rw [← hc0]
 refine sw0 ?_
 refine i_loop (fun x : Nat × Value => [some (.pointer (some ((⟨p, 0, none⟩ : Addr).add 35))), some (.int .i64 m), none, none, none, some x.2, some (.int .i64 (x.1 : Nat)), none, none, none, none, none, none, none, none, none, none])
  (fun x H => c0 ≤ x.1 ∧ x.1 ≤ c1 ∧ Heap.le h1 H ∧ Outs h1 H x.2 ((List.range' c0 (x.1 - c0)).map fun k => (k, ofE size A k))) (fun x => c1 - x.1) (c0, .slice none 0 0) (by dsimp only; try simp only [Pf]) ⟨Nat.le_refl _, hc01, Heap.le.refl h1, by rw [Nat.sub_self]; exact Outs.nil⟩ ?_
 rintro ⟨e, v⟩ H ⟨he0, he1, hle, hO⟩
 dsimp only at he0 he1 hO ⊢
 have hcell : ∀ i, i < 4 → H.cell (((⟨p, 0, none⟩ : Addr).add 35).add i) = some (upF F 37 (.int .i64 ((now + m : Nat) : Int)) (35 + i)) := fun i hi => by rw [add_add']; exact (ho1.le ((P1'.lt 0 rfl).trans hle)).cell oM
 have d0 : H.cell (((⟨p, 0, none⟩ : Addr).add 35).add 0) = some (.int .i64 size) := by rw [hcell 0 oM]; exact congrArg some hD2.c0
 have d1 : H.cell (((⟨p, 0, none⟩ : Addr).add 35).add 1) = some (.int .i64 late) := by rw [hcell 1 oM]; exact congrArg some hD2.c1
 have d2 : H.cell (((⟨p, 0, none⟩ : Addr).add 35).add 2) = some (.int .i64 (now + m : Nat)) := by rw [hcell 2 oM]; exact congrArg some hD2.c2
 have d3 : H.cell (((⟨p, 0, none⟩ : Addr).add 35).add 3) = some av := by rw [hcell 3 oM]; exact congrArg some hD2.c3
 have hwe : IntKind.i64.wrap ((e : Int) + 1) = ((e + 1 : Nat) : Int) := by rw [w64 oM oM]; omega
 refine sw0 ?_
 refine i_call H41 ⟨_, size, late, now + m, rfl, d0, d1, d2, hs1, hs2, hl, hm, ?_⟩
 rw [← hc1]
 refine sw0 ?_
 refine i_cond (fun c => ?_) (fun c => ?_)
 rotate_left
 ·have : e = c1 := oM
  subst this
  refine sw0 ?_
  exact hK gw' H v (fr h1 H) (P1'.new hle) ho1 hO.fr
 have he2 : e < c1 := oM
 refine sw0 ?_
 refine i_call H64 ⟨_, size, av, A, e, rfl, d3, SlB.sl (enc5_len size) (hall.le ((P1'.lt 1 rfl).trans hle)), hA, fun sv H2 ho2 => ?_⟩
 have O1 := ho2.one
 refine sw2 O1.1 O1.2 ?_
 refine i_bslB encEp 2 encEp_len [(e, sv)] rfl rfl (by simp [maxLen]) fun x1 b1 H3 hle3 hb1 hx1 hS1 => ?_
 have O2 := hS1.one
 have hGH : Heap.le h1 H := hle
 have hle23 := ho2.1.trans hle3
 have hvm : ∀ b, blkOf v = some b → H b ≠ none := fun b hb => by obtain ⟨es, Z, hP⟩ := hO; exact hP.sl.mem hb
 refine sw2 O2.1 O2.2 ?_
 refine i_push (Gf := h1) (Z2 := fr H H2) (n := e) (sv := sv) (l := ofE size A e) (hO.mono hle23) (SlB.sl encEp_len (hS1.le (fr_le _ _))) (hGH.trans hle23) ((fr_le _ _).trans hle3) (fun b hb => ?_) (fun b hb => ?_) (ho2.slf2 Si.enc_len) O1.1 (by simp; omega) fun v' H4 hO4 hk4 => ?_
 ·refine le_none hGH b ?_
  cases hh : H b with
  | none => rfl
  | some o' => exact absurd (fr_none hh) hb
 ·cases hh : H b with
  | none => exact absurd hh (hvm b hb)
  | some o' => exact fr_none hh
 ·have hle4 : Heap.le h1 H4 := by
   intro b o' hb
   refine hk4 b o' (hle23 b o' (hle b o' hb)) fun e' => ?_
   obtain ⟨es, Z, hP⟩ := hO
   have := (hP.own b e').1
   rw [hb] at this; cases this
  refine sw1 @hwe ?_
  refine k_loop (e + 1, v') dM (by dsimp only; try simp only [Pf]) ⟨dM, dM, hle4, ?_⟩
  dsimp only
  rw [show e + 1 - c0 = (e - c0) + 1 by omega, range'_snoc, List.map_append]
  rw [show c0 + (e - c0) = e by omega]
  exact hO4
end Go.Cw
