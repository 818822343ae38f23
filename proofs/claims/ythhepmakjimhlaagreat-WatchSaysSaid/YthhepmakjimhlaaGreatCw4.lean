/- Part 4 of the proof of WatchSays: a small language for the program's functions, its soundness, and what the functions do. No conditions beyond the theorems' own. -/
import Derived.Test.YthhepmakjimhlaaGreatCw3
import Derived.Shelf.GgSortFunc.SmallK
import Derived.Shelf.GgSortFunc.Tiny
import Derived.Shelf.SlSortFuncK.WholeK
import Derived.Shelf.Small.Bits
import Derived.Sort.WalkA14
set_option linter.unusedSimpArgs false
set_option linter.unusedVariables false
set_option maxRecDepth 20000
namespace Go.Cw
open Go
def S111 : Spec := fun args h K => ∃ a tag window need E e p, args = [.pointer (some a), .string (str tag), .int .i64 p, .int .i64 (e : Nat)] ∧ RTr h a window need E ∧ 1 ≤ window ∧ window ≤ 8 ∧ (∀ l ∈ E, ∀ s ∈ l, ¬ s.bad) ∧ e < E.length ∧
 K (.tuple #[.int .i64 (cntE ((E.take (e + 1)).drop (e + 1 - window)) tag p), .int .i64 (strE ((E.take (e + 1)).drop (e + 1 - window)) tag p)]) h
theorem F111_ok {N : Num} {Γ : Ctx} [GoodC Γ] : Sat S111 (SF N Γ F111) := by
 rintro _ h K ⟨a, tag, window, need, E, e, p, rfl, ⟨ev, fv, ha, ⟨vs, hv, hvl, hr⟩, hE, hEl⟩, w1, w2, hg, he, hK⟩
 refine i_fun rfl ?_
 simp only [F111, Ze, Nat.reduceSub, Nat.reduceAdd]
 have A2 : h.cell (a.add 2) = some ev := ha.rules.1 2 (by simp)
 have A0 : h.cell (a.add 0) = some (.int .i64 window) := ha.rules.1 0 (by simp)
 have A0' : h.cell a = some (.int .i64 window) := ha.rules.2.1 (by simp)
 have R := hv.rules1 id (fun _ => rfl) undef
 rw [hvl] at R
 have hw3 : IntKind.i64.wrap ((e : Int) - window) = (e : Int) - window := w64 oM oM
 have hw4 : IntKind.i64.wrap ((e : Int) - window + 1) = (e : Int) - window + 1 := w64 oM oM
 have hmaxe : max (0 : Int) ((e : Int) - window + 1) = ((e + 1 - window : Nat) : Int) := oM
 refine sw5 @A0 @A0' @hw3 @hw4 @hmaxe ?_
 generalize hlo : e + 1 - window = lo at *
 refine i_loop (fun s : Nat × Int × Int => [some (.pointer (some a)), some (.string (str tag)), some (.int .i64 p), some (.int .i64 e), none, none, some (.int .i64 s.2.1), some (.int .i64 s.2.2), some (.int .i64 s.1), none, none, none, none, none, none, none, none])
  (fun s h1 => Heap.le h h1 ∧ h1 = h ∧ lo ≤ s.1 ∧ s.1 ≤ e + 1 ∧ s.2.1 = cntE ((E.take s.1).drop lo) tag p ∧ s.2.2 = strE ((E.take s.1).drop lo) tag p) (fun s => e + 1 - s.1) (lo, 0, 0) sE ⟨Heap.le.refl h, rfl, Nat.le_refl _, dM, ?_, ?_⟩ ?_
 ·rw [List.drop_eq_nil_of_le (by rw [List.length_take]; omega)]; rfl
 ·rw [List.drop_eq_nil_of_le (by rw [List.length_take]; omega)]; rfl
 rintro ⟨k, n, sm⟩ h1 ⟨_, rfl, hk1, hk2, hn, hs⟩
 dsimp only at hk1 hk2 hn hs
 refine sw0 ?_
 refine i_cond (fun c1 => ?_) (fun c1 => ?_)
 rotate_left
 ·have : k = e + 1 := oM
  subst this
  subst hn hs
  refine sw0 ?_
  exact hK
 have hk3 : k < E.length := oM
 have Rk := (hr k hk3).rules 4 Si.enc_len default
 have hle := hEl _ (getD_mem [] hk3)
 have hrow := hg _ (getD_mem [] hk3)
 have hsnoc : (E.take (k + 1)).drop lo = (E.take k).drop lo ++ [E.getD k []] := by
  rw [take_succ_d [] hk3, List.drop_append_of_le_length (by rw [List.length_take]; omega)]
 have hb := strE_bound (W := (E.take k).drop lo) (fun l hl => ⟨hg l (List.mem_of_mem_take (List.mem_of_mem_drop hl)), by have := hEl l (List.mem_of_mem_take (List.mem_of_mem_drop hl)); omega⟩) tag p
 have hcl := cntE_le ((E.take k).drop lo) tag p
 have hWl : ((E.take k).drop lo).length ≤ 1000 := by rw [List.length_drop, List.length_take]; omega
 have hn' : (cntE ((E.take (k + 1)).drop lo) tag p : Int) = n + if seen (E.getD k []) tag p then 1 else 0 := by
  rw [hsnoc, cntE_snoc, hn]; split <;> rfl
 have hs' : strE ((E.take (k + 1)).drop lo) tag p = sm + sumS (E.getD k []) tag p := by rw [hsnoc, strE_snoc, hs]
 rw [← hs] at hb
 generalize hrw : E.getD k [] = row at *
 refine sw0 ?_
 refine i_loop (fun s : Nat × Bool × Int => [some (.pointer (some a)), some (.string (str tag)), some (.int .i64 p), some (.int .i64 e), none, none, some (.int .i64 n), some (.int .i64 s.2.2), some (.int .i64 k), some (.bool (decide (s.2.1 = true))), some (.int .i64 s.1), none, none, none, none, none, none])
  (fun s h2 => h2 = h1 ∧ s.1 ≤ row.length ∧ (s.2.1 = true ↔ seen (row.take s.1) tag p) ∧ s.2.2 = sm + sumS (row.take s.1) tag p) (fun s => row.length - s.1) (0, false, sm) (by try simp only [Pf]; simp) ⟨rfl, Nat.zero_le _, by simp [seen], by simp [sumS]⟩ ?_
 rintro ⟨i, sb, sm'⟩ h2 ⟨rfl, hi, hsb, hsm⟩
 dsimp only at hi hsb hsm
 refine sw4 @A2 @R (@id_eq Value) @Rk ?_
 refine i_cond (fun c2 => ?_) (fun c2 => ?_)
 ·have hi2 : i < row.length := oM
  have hsp := seen_snoc (row.take i) (row.getD i default) tag p
  have hss := sumS_snoc (row.take i) (row.getD i default) tag p
  rw [← take_succ_d default hi2] at hsp hss
  have hb1 := sumS_bound (l := row.take i) (fun s hs => hrow s (List.mem_of_mem_take hs)) tag p
  have hti : (row.take i).length ≤ 2000 := by rw [List.length_take]; omega
  have hxs := hrow _ (getD_mem default hi2)
  simp only [Si.bad] at hxs
  have hw5 : IntKind.i64.wrap (sm' + (row.getD i default).strength) = sm' + (row.getD i default).strength := w64 oM oM
  refine sw5 @A2 @R (@id_eq Value) @Rk @Si.enc.eq_1 ?_
  refine i_cond (fun c3 => ?_) (fun c3 => ?_)
  ·refine sw1 @hw5 ?_
   exact k_loop (i + 1, true, sm' + (row.getD i default).strength) dM (by try simp only [Pf]; simp) ⟨rfl, dM, ⟨fun _ => hsp.2 (.inr c3), fun _ => rfl⟩, by rw [hss, if_pos c3, hsm]; dsimp only; omega⟩
  ·refine sw0 ?_
   exact k_loop (i + 1, sb, sm') dM sE ⟨rfl, dM, by rw [hsp]; dsimp only; rw [hsb]; simp only [c3, or_false], by rw [hss, if_neg c3, hsm]; dsimp only; omega⟩
 ·have : i = row.length := oM
  subst this
  rw [List.take_length] at hsb hsm
  refine sw0 ?_
  have hwn : IntKind.i64.wrap (n + 1) = n + 1 := w64 oM oM
  refine i_cond (fun c3 => ?_) (fun c3 => ?_)
  ·rw [if_pos (hsb.1 c3)] at hn'
   refine sw1 @hwn ?_
   exact k_loop (k + 1, n + 1, sm') dM sE ⟨Heap.le.refl _, rfl, dM, dM, by rw [hn'], by rw [hs', hsm]⟩
  ·rw [if_neg (fun h => c3 (hsb.2 h))] at hn'
   refine sw0 ?_
   exact k_loop (k + 1, n, sm') dM sE ⟨Heap.le.refl _, rfl, dM, dM, by rw [hn']; dsimp only; omega, by rw [hs', hsm]⟩
theorem bestTo_spec (need : Nat) (cnt : Int → Nat) (st : Int → Int) : ∀ n : Nat, (bestTo need cnt st n = -1 ∧ ∀ p : Int, 0 ≤ p → p < n → cnt p < need) ∨ (0 ≤ bestTo need cnt st n ∧ bestTo need cnt st n < n ∧ need ≤ cnt (bestTo need cnt st n)) := by
 intro n
 induction n with
 | zero => exact .inl ⟨rfl, fun p h1 h2 => absurd h1 (by simp at h2; omega)⟩
 | succ n ih =>
  simp only [bestTo]
  split
  ·rename_i h
   rcases ih with ⟨h1, h2⟩ | ⟨h1, h2, h3⟩
   ·refine .inl ⟨h1, fun p h3 h4 => ?_⟩
    by_cases e : p = n
    ·rw [e]; exact h
    ·exact h2 p h3 oM
   ·exact .inr ⟨h1, oM, h3⟩
  ·rename_i h
   split
   ·exact .inr ⟨oM, oM, oM⟩
   ·rename_i h4
    rcases ih with ⟨h1, h2⟩ | ⟨h1, h2, h3⟩
    ·omega
    ·exact .inr ⟨h1, oM, h3⟩
structure RowI (who : List UInt8) (R : List (List Si)) (p : Int) (sn at_ one : Int) (single : Bool) : Prop where
 cnt : at_ = cntE R who p
 hn : sn = (R.filter fun l => !l.isEmpty).length
 ho : (one = -1 ∧ ∀ l ∈ R, l = []) ∨ ∃ l ∈ R, ∃ s ∈ l, s.place = one
 sg : single = true → ∀ l ∈ R, ∀ s ∈ l, s.place = one
structure RowJ (who : List UInt8) (R : List (List Si)) (row : List Si) (p : Int) (sn at_ one : Int) (single here : Bool) : Prop where
 cnt : at_ = cntE R who p
 hn : sn = (R.filter fun l => !l.isEmpty).length
 ho : (one = -1 ∧ ∀ l ∈ R ++ [row], l = []) ∨ ∃ l ∈ R ++ [row], ∃ s ∈ l, s.place = one
 sg : single = true → ∀ l ∈ R ++ [row], ∀ s ∈ l, s.place = one
 hr : here = true ↔ ∃ s ∈ row, s.place = p
theorem RowI.j {who : List UInt8} {R : List (List Si)} {p sn at_ one : Int} {single : Bool} (h : RowI who R p sn at_ one single) : RowJ who R [] p sn at_ one single false := by
 refine ⟨h.cnt, h.hn, ?_, ?_, by simp⟩
 ·rcases h.ho with ⟨h1, h2⟩ | ⟨l, hl, s, hs, e⟩
  ·refine .inl ⟨h1, fun l hl => ?_⟩
   rw [List.mem_append, List.mem_singleton] at hl
   exact hl.elim (h2 l) id
  ·exact .inr ⟨l, by simp [hl], s, hs, e⟩
 ·intro hs l hl s hsl
  rw [List.mem_append, List.mem_singleton] at hl
  rcases hl with hl | rfl
  ·exact h.sg hs l hl s hsl
  ·cases hsl
theorem RowJ.step {who : List UInt8} {R : List (List Si)} {row : List Si} {p sn at_ one : Int} {single here : Bool} (h : RowJ who R row p sn at_ one single here) (s : Si) {single' here' : Bool} (h0 : ∀ l ∈ R ++ [row], ∀ s ∈ l, 0 ≤ s.place)
  (h1 : single' = true → single = true ∧ (one < 0 ∨ one = s.place)) (h2 : here' = true ↔ here = true ∨ s.place = p) : RowJ who R (row ++ [s]) p sn at_ s.place single' here' := by
 refine ⟨h.cnt, h.hn, .inr ⟨row ++ [s], by simp, s, by simp, rfl⟩, fun hs l hl x hx => ?_, ?_⟩
 ·obtain ⟨k1, k2⟩ := h1 hs
  have hmem : (∃ l' ∈ R ++ [row], x ∈ l') ∨ x = s := by
   rw [List.mem_append, List.mem_singleton] at hl
   rcases hl with hl | rfl
   ·exact .inl ⟨l, by simp [hl], hx⟩
   ·rw [List.mem_append, List.mem_singleton] at hx
    exact hx.imp (fun hx => ⟨row, by simp, hx⟩) id
  rcases hmem with ⟨l', hl', hx'⟩ | rfl
  ·have e := h.sg k1 l' hl' x hx'
   have := h0 l' hl' x hx'
   omega
  ·rfl
 ·rw [h2, h.hr]
  constructor
  ·rintro (⟨x, hx, e⟩ | e)
   ·exact ⟨x, by simp [hx], e⟩
   ·exact ⟨s, by simp, e⟩
  ·rintro ⟨x, hx, e⟩
   rw [List.mem_append, List.mem_singleton] at hx
   rcases hx with hx | rfl
   ·exact .inl ⟨x, hx, e⟩
   ·exact .inr e
theorem RowJ.i {who : List UInt8} {R : List (List Si)} {row : List Si} {p sn at_ one : Int} {single here : Bool} (h : RowJ who R row p sn at_ one single here) (hw : ∀ s ∈ row, s.tag = who) :
  RowI who (R ++ [row]) p (sn + if 0 < row.length then 1 else 0) (at_ + if here = true then 1 else 0) one single := by
 refine ⟨?_, ?_, h.ho, h.sg⟩
 ·rw [cntE_snoc, h.cnt]
  have : here = true ↔ seen row who p := by
   rw [h.hr]; exact ⟨fun ⟨s, hs, e⟩ => ⟨s, hs, hw s hs, e⟩, fun ⟨s, hs, _, e⟩ => ⟨s, hs, e⟩⟩
  by_cases e : seen row who p
  ·rw [if_pos (this.2 e), if_pos e]; rfl
  ·rw [if_neg (fun h => e (this.1 h)), if_neg e]; rfl
 ·rw [List.filter_append, List.length_append, h.hn]
  cases row <;> simp
theorem RowI.zero (who : List UInt8) (p : Int) : RowI who [] p 0 0 (-1) true := ⟨rfl, rfl, .inl ⟨rfl, by simp⟩, by simp⟩
theorem RowI.law {who : List UInt8} {R : List (List Si)} {window need : Nat} {EL : List (List Si)} {sn at_ one : Int} {single : Bool} (hR : R = EL.drop (EL.length - window)) (h : RowI who R (atE window need EL who) sn at_ one single) (hn : 1 ≤ need)
  (hg : ∀ l ∈ R, ∀ s ∈ l, 0 ≤ s.place ∧ s.place ≤ 7) (hw : ∀ l ∈ R, ∀ s ∈ l, s.tag = who) :
  ¬ ((0 ≤ atE window need EL who ∧ at_ < need) ∨ (single = true ∧ (need : Int) ≤ sn ∧ atE window need EL who ≠ one) ∨ (single = true ∧ sn < need ∧ 0 ≤ atE window need EL who)) := by
 have hA : atE window need EL who = bestTo need (cntE R who) (strE R who) 8 := by rw [hR]; rfl
 have hsp := bestTo_spec need (cntE R who) (strE R who) 8
 rw [← hA] at hsp
 generalize atE window need EL who = p at *
 have hcs : ∀ q, (cntE R who q : Int) ≤ sn := by
  intro q
  rw [h.hn]
  have : cntE R who q ≤ (R.filter fun l => !l.isEmpty).length := by
   unfold cntE
   rw [← List.countP_eq_length_filter, ← List.countP_eq_length_filter]
   refine List.countP_mono_left fun l _ hl => ?_
   obtain ⟨s, hs, _⟩ := of_decide_eq_true hl
   cases l with
   | nil => cases hs
   | cons a l => rfl
  exact_mod_cast this
 rintro (⟨h1, h2⟩ | ⟨h1, h2, h3⟩ | ⟨h1, h2, h3⟩)
 ·rw [h.cnt] at h2; omega
 ·have hso : ∀ l ∈ R, ∀ s ∈ l, s.place = one := h.sg h1
  have hcnt : (cntE R who one : Int) = sn := by
   rw [h.hn]; unfold cntE
   congr 2
   refine List.filter_congr fun l hl => ?_
   cases l with
   | nil => simp [seen]
   | cons a l => simp only [List.isEmpty_cons, Bool.not_false, decide_eq_true_eq]; exact ⟨a, by simp, hw _ hl a (by simp), hso _ hl a (by simp)⟩
  rcases h.ho with ⟨e, h4⟩ | ⟨l, hl, s, hs, e⟩
  ·have : (R.filter fun l => !l.isEmpty) = [] := by
    rw [List.filter_eq_nil_iff]; intro l hl; simp [h4 l hl]
   have h5 := h.hn
   rw [this] at h5
   simp at h5; omega
  ·have h5 := hg l hl s hs
   rw [e] at h5
   rcases hsp with ⟨h6, h7⟩ | ⟨h6, h7, h8⟩
   ·have := h7 one oM oM; omega
   ·have h9 : 0 < cntE R who p := oM
    unfold cntE at h9
    obtain ⟨l', hl'⟩ := List.exists_mem_of_length_pos h9
    rw [List.mem_filter] at hl'
    obtain ⟨x, hx, _, hp⟩ := of_decide_eq_true hl'.2
    have := hso l' hl'.1 x hx
    omega
 ·rcases hsp with ⟨h6, h7⟩ | ⟨h6, h7, h8⟩
  ·omega
  ·have := hcs p; omega
def IsB (need : Nat) (cnt : Int → Nat) (st : Int → Int) (lo hi : Int) (b : Int) : Prop :=
 (b = -1 ∧ ∀ p, lo ≤ p → p < hi → cnt p < need) ∨ (lo ≤ b ∧ b < hi ∧ need ≤ cnt b ∧ ∀ p, lo ≤ p → p < hi → need ≤ cnt p → cnt p < cnt b ∨ (cnt p = cnt b ∧ (st p < st b ∨ (st p = st b ∧ b ≤ p))))
theorem IsB.uniq {need : Nat} {cnt : Int → Nat} {st : Int → Int} {lo hi b c : Int} (hb : IsB need cnt st lo hi b) (hc : IsB need cnt st lo hi c) : b = c := by
 rcases hb with ⟨h1, h2⟩ | ⟨h1, h2, h3, h4⟩ <;> rcases hc with ⟨g1, g2⟩ | ⟨g1, g2, g3, g4⟩
 ·rw [h1, g1]
 ·have := h2 c g1 g2; omega
 ·have := g2 b h1 h2; omega
 ·have a := h4 c g1 g2 g3
  have b := g4 b h1 h2 h3
  omega
theorem bestTo_isB (need : Nat) (cnt : Int → Nat) (st : Int → Int) : ∀ n : Nat, IsB need cnt st 0 n (bestTo need cnt st n) := by
 intro n
 induction n with
 | zero => exact .inl ⟨rfl, fun p h1 h2 => by simp at h2; omega⟩
 | succ n ih =>
  simp only [bestTo]
  split
  ·rename_i h
   rcases ih with ⟨h1, h2⟩ | ⟨h1, h2, h3, h4⟩
   ·refine .inl ⟨h1, fun p h3 h4 => ?_⟩
    by_cases e : p = n
    ·rw [e]; exact h
    ·exact h2 p h3 oM
   ·refine .inr ⟨h1, oM, h3, fun p h5 h6 h7 => ?_⟩
    by_cases e : p = n
    ·rw [e] at h7; omega
    ·exact h4 p h5 oM h7
  ·rename_i h
   split
   ·rename_i h5
    refine .inr ⟨oM, oM, oM, fun p h6 h7 h8 => ?_⟩
    by_cases e : p = n
    ·rw [e]; exact .inr ⟨rfl, .inr ⟨rfl, Int.le_refl _⟩⟩
    ·rcases ih with ⟨h1, h2⟩ | ⟨h1, h2, h3, h4⟩
     ·have := h2 p h6 oM; omega
     ·have := h4 p h6 oM h8
      omega
   ·rename_i h5
    rcases ih with ⟨h1, h2⟩ | ⟨h1, h2, h3, h4⟩
    ·omega
    ·refine .inr ⟨h1, oM, h3, fun p h6 h7 h8 => ?_⟩
     by_cases e : p = n
     ·rw [e]; omega
     ·exact h4 p h6 oM h8
def S86 : Spec := fun args h K => ∃ a tag window need E e, args = [.pointer (some a), .string (str tag), .int .i64 (e : Nat)] ∧ RTr h a window need E ∧ 1 ≤ window ∧ window ≤ 8 ∧ 1 ≤ need ∧ (∀ l ∈ E, ∀ s ∈ l, ¬ s.bad) ∧ e < E.length ∧
 K (.int .i64 (atE window need (E.take (e + 1)) tag)) h
theorem F86_ok {N : Num} {Γ : Ctx} [GoodC Γ] (H111 : Sat S111 (Γ 111)) : Sat S86 (SF N Γ F86) := by
 rintro _ h K ⟨a, tag, window, need, E, e, rfl, hR, w1, w2, n1, hg, he, hK⟩
 refine i_fun rfl ?_
 simp only [F86, Ze, Nat.reduceSub, Nat.reduceAdd]
 have A1 : h.cell (a.add 1) = some (.int .i64 need) := by obtain ⟨ev, fv, ha, _⟩ := hR; exact ha.rules.1 1 (by simp)
 have hat : atE window need (E.take (e + 1)) tag = bestTo need (cntE ((E.take (e + 1)).drop (e + 1 - window)) tag) (strE ((E.take (e + 1)).drop (e + 1 - window)) tag) 8 := by
  unfold atE atW
  rw [show (E.take (e + 1)).length = e + 1 by rw [List.length_take]; omega]
 have hcall := fun p (K : Value → Heap → Prop) hK => H111 [.pointer (some a), .string (str tag), .int .i64 p, .int .i64 (e : Nat)] h K ⟨a, tag, window, need, E, e, p, rfl, hR, w1, w2, hg, he, hK⟩
 rw [hat] at hK
 have hbt := bestTo_isB need (cntE ((E.take (e + 1)).drop (e + 1 - window)) tag) (strE ((E.take (e + 1)).drop (e + 1 - window)) tag) 8
 generalize cntE ((E.take (e + 1)).drop (e + 1 - window)) tag = cnt at *
 generalize strE ((E.take (e + 1)).drop (e + 1 - window)) tag = st at *
 refine sw0 ?_
 refine i_loop (fun s : Nat × Int × Int × Int => [some (.pointer (some a)), some (.string (str tag)), some (.int .i64 e), none, some (.int .i64 s.2.1), some (.int .i64 s.2.2.1), some (.int .i64 s.2.2.2), some (.int .i64 ((s.1 : Int) - 1)), none, none, none, none, none, none])
  (fun s h1 => h1 = h ∧ s.1 ≤ 8 ∧ IsB need cnt st s.1 8 s.2.1 ∧ (0 ≤ s.2.1 → s.2.2.1 = cnt s.2.1 ∧ s.2.2.2 = st s.2.1)) (fun s => s.1) (8, -1, 0, 0) (by try simp only [Pf]; rfl) ⟨rfl, Nat.le_refl _, .inl ⟨rfl, fun p h1 h2 => by dsimp only at h1; omega⟩, fun h => by dsimp only at h; omega⟩ ?_
 rintro ⟨q, best, most, strong⟩ h1 ⟨rfl, hq, hB, hM⟩
 dsimp only at hq hB hM
 refine sw0 ?_
 refine i_cond (fun c1 => ?_) (fun c1 => ?_)
 rotate_left
 ·have : q = 0 := oM
  subst this
  refine sw0 ?_
  rw [hB.uniq hbt]
  exact hK
 obtain ⟨q, rfl⟩ : ∃ q', q = q' + 1 := ⟨q - 1, oM⟩
 have e1 : (((q + 1 : Nat) : Int) - 1) = (q : Int) := oM
 have hw : IntKind.i64.wrap ((q : Int) - 1) = (q : Int) - 1 := w64 oM oM
 rw [e1]
 refine sw0 ?_
 refine i_call (S := fun args h' K => ∃ p, args = [.pointer (some a), .string (str tag), .int .i64 p, .int .i64 (e : Nat)] ∧ h' = h1 ∧ K (.tuple #[.int .i64 (cnt p), .int .i64 (st p)]) h1) (fun args h' K ⟨p, e1, e2, hK⟩ => by subst e1 e2; exact hcall p K hK) ⟨q, rfl, rfl, ?_⟩
 refine sw1 @A1 ?_
 refine i_cond (fun c2 => ?_) (fun c2 => ?_)
 ·refine sw1 @hw ?_
  refine k_loop (q, best, most, strong) dM sE ⟨rfl, dM, ?_, hM⟩
  dsimp only
  rcases hB with ⟨h1, h2⟩ | ⟨h1, h2, h3, h4⟩
  ·refine .inl ⟨h1, fun p h3 h4 => ?_⟩
   by_cases e : p = q
   ·rw [e]; omega
   ·exact h2 p oM h4
  ·refine .inr ⟨oM, h2, h3, fun p h5 h6 h7 => ?_⟩
   by_cases e : p = q
   ·rw [e] at h7; omega
   ·exact h4 p oM h6 h7
 ·refine sw0 ?_
  refine i_cond (fun c3 => ?_) (fun c3 => ?_)
  ·refine sw1 @hw ?_
   refine k_loop (q, q, cnt q, st q) dM sE ⟨rfl, dM, .inr ⟨Int.le_refl _, dM, dM, fun p h5 h6 h7 => ?_⟩, fun _ => ⟨rfl, rfl⟩⟩
   dsimp only at h5 h6 ⊢
   by_cases e : p = q
   ·rw [e]; exact .inr ⟨rfl, .inr ⟨rfl, Int.le_refl _⟩⟩
   ·rcases hB with ⟨h1, h2⟩ | ⟨h1, h2, h3, h4⟩
    ·have := h2 p oM h6; omega
    ·have := h4 p oM h6 h7
     obtain ⟨m1, m2⟩ := hM oM
     omega
  ·refine sw1 @hw ?_
   refine k_loop (q, best, most, strong) dM sE ⟨rfl, dM, ?_, hM⟩
   dsimp only
   rcases hB with ⟨h1, h2⟩ | ⟨h1, h2, h3, h4⟩
   ·omega
   ·obtain ⟨m1, m2⟩ := hM oM
    refine .inr ⟨oM, h2, h3, fun p h5 h6 h7 => ?_⟩
    by_cases e : p = q
    ·rw [e]; omega
    ·exact h4 p oM h6 h7
def CacheOk (kv : List (List UInt8 × Int)) (window need : Nat) (E : List (List Si)) : Prop :=
 ∀ k p, look kv k = some p → ∃ tag e, k = keyOf tag e ∧ e < E.length ∧ p = atE window need (E.take (e + 1)) tag
structure RTp (g : Heap) (b window need : Nat) (E : List (List Si)) (ev : Value) (vs : List Value) (mp : Nat) (kv : List (List UInt8 × Int)) (bs : List Nat) (ck : Nat) (g0 : Heap) : Prop where
 obj : objAt g ⟨b, 0, none⟩ [.int .i64 window, .int .i64 need, ev, .map (some mp)]
 evs : SlB encV 1 g ev vs
 vlen : vs.length = E.length
 le0 : Heap.le g0 g
 rows : ∀ i, i < E.length → Sl Si.enc g0 (vs.getD i undef) (E.getD i [])
 map : MapB encKS encKI g mp kv bs ck
 b0 : g0 b = none
 m0 : g0 mp = none
 e0 : ∀ x, blkOf ev = some x → g0 x = none ∧ x ≠ b
 cache : CacheOk kv window need E
 elen : E.length ≤ 1000
 rlen : ∀ l ∈ E, l.length ≤ 2000
def RT (g : Heap) (b window need : Nat) (E : List (List Si)) : Prop := ∃ ev vs mp kv bs ck g0, RTp g b window need E ev vs mp kv bs ck g0
theorem RTp.read {g h : Heap} {b window need : Nat} {E : List (List Si)} {ev : Value} {vs : List Value} {mp : Nat} {kv : List (List UInt8 × Int)} {bs : List Nat} {ck : Nat} {g0 : Heap} (hT : RTp g b window need E ev vs mp kv bs ck g0) (hg : Heap.le g h) : RTr h ⟨b, 0, none⟩ window need E :=
 ⟨ev, _, hT.obj.le hg, ⟨vs, SlB.sl (enc := encV) (fun _ => rfl) (hT.evs.le hg), hT.vlen, fun i hi => (hT.rows i hi).le (hT.le0.trans hg)⟩, hT.elen, hT.rlen⟩
theorem RT.read {g h : Heap} {b window need : Nat} {E : List (List Si)} (hT : RT g b window need E) (hg : Heap.le g h) : RTr h ⟨b, 0, none⟩ window need E := by
 obtain ⟨ev, vs, mp, kv, bs, ck, g0, hT⟩ := hT
 exact hT.read hg
theorem MapB.lkpoi {h : Heap} {m : Nat} {kv : List (List UInt8 × Int)} {bs : List Nat} {ck : Nat} (hm : MapB encKS encKI h m kv bs ck) (k : List UInt8) : o2V h (.lkpo .str (.int .i64 0)) (.v (.map (some m))) (.v (.string (str k))) = some (.v (.tuple #[.int .i64 ((look kv k).getD 0), .bool (look kv k).isSome])) := by
 have := (hm.rules .str).2.1 (.int .i64 0) k
 rw [show (Value.string (str k)) = encKS k from rfl, this]
 cases look kv k <;> rfl
theorem RTp.put {g : Heap} {b window need : Nat} {E : List (List Si)} {ev : Value} {vs : List Value} {mp : Nat} {kv kv' : List (List UInt8 × Int)} {bs bs' : List Nat} {ck ck' : Nat} {g0 : Heap} (hT : RTp g b window need E ev vs mp kv bs ck g0) {o : Obj}
  (hm : MapB encKS encKI (g.set mp o) mp kv' bs' ck') (hc : CacheOk kv' window need E) : RTp (g.set mp o) b window need E ev vs mp kv' bs' ck' g0 := by
 have hmp := hT.map
 have hb : b ≠ mp := by
  intro e
  obtain ⟨_, c, t, h1, _⟩ := hT.obj
  obtain ⟨es, h2, _⟩ := hmp
  dsimp only at h1
  rw [e, h2] at h1; cases h1
 have hx : ∀ x, blkOf ev = some x → x ≠ mp := by
  intro x hx e
  obtain ⟨a, cap, rfl, _, _, h3⟩ := hT.evs
  rcases h3 with ⟨rfl, _⟩ | ⟨b', c, t, rfl, h3, _⟩
  ·simp [blkOf] at hx
  ·simp only [blkOf, Option.some.injEq] at hx
   obtain ⟨es, h2, _⟩ := hmp
   rw [hx, e, h2] at h3; cases h3
 exact ⟨hT.obj.set_ne hb, hT.evs.same fun x h => Heap.set_ne (hx x h), hT.vlen, fun x ob h => by
  have : x ≠ mp := by intro e; subst e; rw [hT.m0] at h; cases h
  rw [Heap.set_ne this]; exact hT.le0 x ob h, hT.rows, hm, hT.b0, hT.m0, hT.e0, hc, hT.elen, hT.rlen⟩
def MOkE (window need : Nat) (E : List (List Si)) : Prop := 1 ≤ window ∧ window ≤ 8 ∧ 1 ≤ need ∧ ∀ l ∈ E, ∀ s ∈ l, ¬ s.bad
def S70 : Spec := fun args h K => ∃ g b window need E tag e, args = [.pointer (some ⟨b, 0, none⟩), .string (str tag), .int .i64 (e : Nat)] ∧ RT g b window need E ∧ Heap.le g h ∧ MOkE window need E ∧ tag.length ≤ 1000000 ∧ e < E.length ∧
 ∀ g' h', Step g h g' h' → RT g' b window need E → K (.int .i64 (atE window need (E.take (e + 1)) tag)) h'
theorem F70_ok {N : Num} {Γ : Ctx} [GoodC Γ] (H85 : Sat S85 (Γ 85)) (H86 : Sat S86 (Γ 86)) : Sat S70 (SF N Γ F70) := by
 rintro _ h K ⟨g, b, window, need, E, tag, e, rfl, ⟨ev, vs, mp, kv, bs, ck, g0, hT⟩, hg, ⟨w1, w2, n1, hgood⟩, htl, he, hK⟩
 have hel := hT.elen
 refine i_fun rfl ?_
 simp only [F70, Ze, Nat.reduceSub, Nat.reduceAdd]
 refine sw0 ?_
 refine i_call H85 ⟨e, rfl, oM, fun h1 hle1 => ?_⟩
 have hg1 := hg.trans hle1
 have hdl := dec_len 4 (n := e) oM oM
 have A3 : h1.cell ((⟨b, 0, none⟩ : Addr).add 3) = some (.map (some mp)) := (hT.obj.le hg1).rules.1 3 (by simp)
 have Rk := (hT.map.le hg1).lkpoi (keyOf tag e)
 have hkey : tag ++ [64] ++ dec e = keyOf tag e := rfl
 cases hlk : look kv (keyOf tag e) with
 | some p =>
  rw [hlk] at Rk
  refine sw3 @hkey @A3 @Rk ?_
  obtain ⟨t2, e2, h1', h2, h3⟩ := hT.cache _ _ hlk
  obtain ⟨rfl, rfl⟩ := keyOf_inj h1'
  rw [h3]
  exact hK _ _ (Step.more hg hle1) ⟨ev, vs, mp, kv, bs, ck, g0, hT⟩
 | none =>
  rw [hlk] at Rk
  refine sw3 @hkey @A3 @Rk ?_
  refine i_call H86 ⟨⟨b, 0, none⟩, tag, window, need, E, e, rfl, hT.read hg1, w1, w2, n1, hgood, he, ?_⟩
  refine sw1 @A3 ?_
  refine i_mupd (ek := encKS) (ev := encKI) hT.map hg1 (keyOf tag e) (atE window need (E.take (e + 1)) tag) fun o bs' ck' hM hS _ => ?_
  refine sw0 ?_
  refine hK _ _ ((Step.more hg hle1).trans hS) ⟨ev, vs, mp, _, bs', ck', g0, hT.put hM fun k p hk => ?_⟩
  rw [look_upd] at hk
  split at hk
  ·rename_i ek; cases hk; exact ⟨tag, e, ek, he, rfl⟩
  ·exact hT.cache k p hk
def whr (window need : Nat) (E : List (List Si)) (tag : List UInt8) (e : Int) : Int × Nat :=
 if e < 0 ∨ (E.length : Int) ≤ e then (0, 1) else if toldE E tag then (atE window need (E.take (e.toNat + 1)) tag, 0) else (0, 5)
def cms (window need : Nat) (E : List (List Si)) (tag : List UInt8) (p e : Int) : Bool :=
 if (whr window need E tag e).2 ≠ 0 ∨ p < 0 ∨ (whr window need E tag e).1 ≠ p then false else decide (e = 0 ∨ atE window need (E.take ((e - 1).toNat + 1)) tag ≠ p)
def S52 : Spec := fun args h K => ∃ g b window need E tag e, args = [.pointer (some ⟨b, 0, none⟩), .string (str tag), .int .i64 e] ∧ RT g b window need E ∧ Heap.le g h ∧ MOkE window need E ∧ tag.length ≤ 1000000 ∧
 ∀ g' h', Step g h g' h' → RT g' b window need E → K (.tuple #[.int .i64 (whr window need E tag e).1, .int .i64 ((whr window need E tag e).2 : Nat)]) h'
theorem F52_ok {N : Num} {Γ : Ctx} [GoodC Γ] (H55 : Sat S55 (Γ 55)) (H70 : Sat S70 (Γ 70)) : Sat S52 (SF N Γ F52) := by
 rintro _ h K ⟨g, b, window, need, E, tag, e, rfl, hT, hg, hm, htl, hK⟩
 have hR := hT.read hg
 refine i_fun rfl ?_
 simp only [F52, Ze, Nat.reduceSub, Nat.reduceAdd]
 obtain ⟨ev, fv, ho, ⟨vs, hv, hvl, hr⟩, hel, hrl⟩ := id hR
 have A2 : h.cell ((⟨b, 0, none⟩ : Addr).add 2) = some ev := ho.rules.1 2 (by simp)
 have R := hv.rules1 id (fun _ => rfl) undef
 rw [hvl] at R
 unfold whr at hK
 refine sw2 @A2 @R ?_
 refine i_cond (fun c1 => ?_) (fun c1 => ?_)
 ·rw [if_pos oM] at hK
  refine sw0 ?_
  exact hK _ _ (Step.refl hg) hT
 ·rw [if_neg oM] at hK
  obtain ⟨i, rfl⟩ : ∃ i : Nat, e = i := ⟨e.toNat, oM⟩
  refine sw2 @A2 @R ?_
  refine i_call H55 ⟨⟨b, 0, none⟩, tag, window, need, E, E.length, rfl, hR, ?_⟩
  rw [List.take_of_length_le oM]
  by_cases ht : toldE E tag
  ·rw [if_pos ht] at hK
   rw [decide_eq_true ht]
   refine sw0 ?_
   refine i_call H70 ⟨g, b, window, need, E, tag, i, rfl, hT, hg, hm, htl, oM, fun g' h' hS hT' => ?_⟩
   refine sw0 ?_
   exact hK _ _ hS hT'
  ·rw [if_neg ht] at hK
   rw [decide_eq_false ht]
   refine sw0 ?_
   exact hK _ _ (Step.refl hg) hT
def S53 : Spec := fun args h K => ∃ g b window need E tag p e, args = [.pointer (some ⟨b, 0, none⟩), .string (str tag), .int .i64 p, .int .i64 e] ∧ RT g b window need E ∧ Heap.le g h ∧ MOkE window need E ∧ tag.length ≤ 1000000 ∧
 ∀ g' h', Step g h g' h' → RT g' b window need E → K (.bool (cms window need E tag p e)) h'
theorem F53_ok {N : Num} {Γ : Ctx} [GoodC Γ] (H52 : Sat S52 (Γ 52)) (H70 : Sat S70 (Γ 70)) : Sat S53 (SF N Γ F53) := by
 rintro _ h K ⟨g, b, window, need, E, tag, p, e, rfl, hT, hg, hm, htl, hK⟩
 refine i_fun rfl ?_
 simp only [F53, Ze, Nat.reduceSub, Nat.reduceAdd]
 have hel : E.length ≤ 1000 := (hT.read hg).choose_spec.choose_spec.2.2.1
 unfold cms at hK
 have hw : (whr window need E tag e).2 = 0 → 0 ≤ e ∧ e < E.length := by
  unfold whr
  split
  ·simp
  ·split
   ·intro _; omega
   ·simp
 refine sw0 ?_
 refine i_call H52 ⟨g, b, window, need, E, tag, e, rfl, hT, hg, hm, htl, fun g1 h1 hS1 hT1 => ?_⟩
 generalize hwr : whr window need E tag e = wr at *
 obtain ⟨q, f⟩ := wr
 dsimp only at hK hw ⊢
 refine sw0 ?_
 refine i_cond (fun c1 => ?_) (fun c1 => ?_)
 ·rw [if_pos oM] at hK
  refine sw0 ?_
  exact hK _ _ hS1 hT1
 ·rw [if_neg oM] at hK
  obtain ⟨hw1, hw2⟩ := hw oM
  obtain ⟨i, rfl⟩ : ∃ i : Nat, e = i := ⟨e.toNat, oM⟩
  by_cases h0 : i = 0
  ·subst h0
   refine sw0 ?_
   exact hK _ _ hS1 hT1
  ·obtain ⟨j, rfl⟩ : ∃ j, i = j + 1 := ⟨i - 1, oM⟩
   have e1 : (((j + 1 : Nat) : Int) = 0) = False := by simp; omega
   refine sw1 @e1 ?_
   refine i_call H70 ⟨g1, b, window, need, E, tag, j, rfl, hT1, hS1.le, hm, htl, oM, fun g2 h2 hS2 hT2 => ?_⟩
   refine sw0 ?_
   have e2 : ((((j + 1 : Nat) : Int) - 1).toNat + 1) = j + 1 := oM
   rw [e2] at hK
   have := hK _ _ (hS1.trans hS2) hT2
   have e3 : decide (((j + 1 : Nat) : Int) = 0 ∨ atE window need (List.take (j + 1) E) tag ≠ p) = decide (atE window need (List.take (j + 1) E) tag ≠ p) := by rw [Bool.eq_iff_iff]; simp [e1]; omega
   rw [e3] at this
   simpa using this
theorem S30_whr {N : Num} {h : Heap} {K : Value → Heap → Prop} {g : Heap} {b window need : Nat} {E : List (List Si)} {tag : List UInt8} {e : Int} (hT : TrO g b window need E) (hg : Heap.le g h)
  (hK : K (.tuple #[.int .i64 (whr window need E tag e).1, errV N (whr window need E tag e).2]) h) : S30 N [.pointer (some ⟨b, 0, none⟩), .string (str tag), .int .i64 e] h K := by
 unfold whr at hK
 refine ⟨g, b, window, need, E, tag, e, rfl, hT, hg, fun h1 => ?_, fun h1 h2 h3 => ?_, fun h1 h2 h3 => ?_⟩
 ·rw [if_pos h1] at hK; exact hK
 ·rw [if_neg oM, if_neg h3] at hK; exact hK
 ·rw [if_neg oM, if_pos h3] at hK; exact hK
def S50 : Spec := fun args h K => ∃ g b window need E tag p e, args = [.pointer (some ⟨b, 0, none⟩), .string (str tag), .int .i64 p, .int .i64 e] ∧ TrO g b window need E ∧ Heap.le g h ∧ E.length ≤ 1000000 ∧
 K (.bool (cms window need E tag p e)) h
theorem F50_ok {N : Num} {Γ : Ctx} [GoodC Γ] (H30 : Sat (S30 N) (Γ 30)) : Sat S50 (SF N Γ F50) := by
 rintro _ h K ⟨g, b, window, need, E, tag, p, e, rfl, hT, hg, hel, hK⟩
 refine i_fun rfl ?_
 simp only [F50, Ze, Nat.reduceSub, Nat.reduceAdd]
 unfold cms at hK
 have hw : (whr window need E tag e).2 = 0 → 0 ≤ e ∧ e < E.length ∧ toldE E tag := by
  unfold whr
  split
  ·simp
  ·split
   ·rename_i ht; intro _; exact ⟨oM, oM, ht⟩
   ·simp
 refine sw0 ?_
 refine i_call H30 (S30_whr hT hg ?_)
 generalize hwr : whr window need E tag e = wr at *
 obtain ⟨q, f⟩ := wr
 dsimp only at hK hw ⊢
 refine sw1 (errV_eq N) ?_
 refine i_cond (fun c1 => ?_) (fun c1 => ?_)
 ·rw [if_pos oM] at hK
  refine sw0 ?_
  exact hK
 ·rw [if_neg oM] at hK
  obtain ⟨hw1, hw2, ht⟩ := hw oM
  obtain ⟨i, rfl⟩ : ∃ i : Nat, e = i := ⟨e.toNat, oM⟩
  by_cases h0 : i = 0
  ·subst h0
   refine sw0 ?_
   simpa using hK
  ·obtain ⟨j, rfl⟩ : ∃ j, i = j + 1 := ⟨i - 1, oM⟩
   have e1 : (((j + 1 : Nat) : Int) = 0) = False := by simp; omega
   refine sw1 @e1 ?_
   refine i_call H30 (S30_whr (e := (j : Nat)) hT hg ?_)
   have hwj : whr window need E tag (j : Nat) = (atE window need (E.take (j + 1)) tag, 0) := by
    unfold whr
    rw [if_neg oM, if_pos ht]; rfl
   rw [hwj]
   refine sw0 ?_
   have e2 : ((((j + 1 : Nat) : Int) - 1).toNat + 1) = j + 1 := oM
   rw [e2] at hK
   have e3 : decide (((j + 1 : Nat) : Int) = 0 ∨ atE window need (List.take (j + 1) E) tag ≠ p) = decide (atE window need (List.take (j + 1) E) tag ≠ p) := by rw [Bool.eq_iff_iff]; simp [e1]; omega
   rw [e3] at hK
   simpa using hK
theorem Step.grow {g h h2 g3 h3 F : Heap} (hl : Heap.le h h2) (a : Step g h2 g3 h3) (hF : Heap.le F h3) (hn : ∀ b, h b ≠ none → F b = none) : Step g h (join g3 F) h3 := by
 refine ⟨join_le a.le hF, fun b o h1 h2 => a.frame b o (hl b o h1) h2, fun b h1 h2 => ?_⟩
 refine join_none (a.fresh b ?_ h2) (hn b h1)
 cases hb : h b with
 | none => exact absurd hb h1
 | some o => rw [hl b o hb]; simp
def S51 : Spec := fun args h K => ∃ window need : Nat, args = [.int .i64 window, .int .i64 need] ∧ ∀ b h', h b = none → Heap.le h h' → RT (fr h h') b window need [] → K (.pointer (some ⟨b, 0, none⟩)) h'
theorem F51_ok {N : Num} {Γ : Ctx} [GoodC Γ] : Sat S51 (SF N Γ F51) := by
 rintro _ h K ⟨window, need, rfl, hK⟩
 refine i_fun rfl ?_
 simp only [F51, Ze, Nat.reduceSub, Nat.reduceAdd]
 refine sw0 ?_
 refine i_mnew (ek := encKS) (ev := encKI) fun m h1 hm0 hle1 hmE => ?_
 refine sw0 ?_
 refine i_newO fun b h2 hle2 hb ho => ?_
 refine sw0 ?_
 have hmn : (fr h h1) m ≠ none := hmE.mem
 refine hK b h2 (le_none hle1 b hb) (hle1.trans hle2) ⟨.slice none 0 0, [], m, [], [], 0, fun _ => none, ⟨ho.le (fr_fr hle1), SlB.nil, rfl, fun y o hy => (by cases hy), fun i hi => (by simp at hi), hmE.le (fr_mono hle2), rfl, rfl, (by simp [blkOf]), fun k p hk => (by simp [look_nil] at hk), (by simp), (by simp)⟩⟩
def S45 : Spec := fun args h K => ∃ g b v window need E l, args = [.pointer (some ⟨b, 0, none⟩), v] ∧ Sl Si.enc h v l ∧ RT g b window need E ∧ Heap.le g h ∧ E.length < 1000 ∧ l.length ≤ 2000 ∧
 ((∃ s ∈ l, s.bad) → K (.int .i64 1) h) ∧ ((∀ s ∈ l, ¬ s.bad) → ∀ g' h', Step g h g' h' → RT g' b window need (E ++ [l]) → K (.int .i64 0) h')
theorem F45_ok {N : Num} {Γ : Ctx} [GoodC Γ] : Sat S45 (SF N Γ F45) := by
 rintro _ h K ⟨g, b, v, window, need, E, l, rfl, hs, ⟨ev, vs, mp, kv, bs, ck, g0, hT⟩, hg, hel, hll, hK1, hK2⟩
 refine i_fun rfl ?_
 simp only [F45, Ze, Nat.reduceSub, Nat.reduceAdd]
 have R := hs.rules 4 Si.enc_len default
 refine sw1 @R ?_
 refine i_meet_blk (fun env h2 => h2 = h ∧ (∀ s ∈ l, ¬ s.bad) ∧ env = [some (.pointer (some ⟨b, 0, none⟩)), some v, some (.int .i64 0), none, none, none, none, none, none, none, none, none, none]) ?_ ?_
 rotate_left
 ·refine i_loop (fun i : Nat => [some (.pointer (some ⟨b, 0, none⟩)), some v, some (.int .i64 0), some (.int .i64 i), none, none, none, none, none, none, none, none, none]) (fun i h2 => h2 = h ∧ i ≤ l.length ∧ ∀ s ∈ l.take i, ¬ s.bad) (fun i => l.length - i) 0 (by try simp only [Pf]; rfl) ⟨rfl, oM, by simp⟩ ?_
  rintro i h2 ⟨rfl, hi, hgood⟩
  refine sw1 @R ?_
  refine i_cond (fun c1 => ?_) (fun c1 => ?_)
  rotate_left
  ·have : i = l.length := oM
   subst this
   rw [List.take_length] at hgood
   refine sw0 ?_
   exact k_meet _ sE ⟨rfl, hgood, rfl⟩
  have hi2 : i < l.length := oM
  refine sw2 @R @Si.enc.eq_1 ?_
  refine i_cond (fun c2 => ?_) (fun c2 => ?_)
  ·refine sw0 ?_
   exact hK1 ⟨_, getD_mem default hi2, by simp only [Si.bad]; omega⟩
  ·refine sw0 ?_
   refine k_loop (i + 1) oM sE ⟨rfl, oM, fun s hs => ?_⟩
   rw [take_succ_d default hi2, List.mem_append, List.mem_singleton] at hs
   rcases hs with hs | rfl
   ·exact hgood s hs
   ·simp only [Si.bad]; omega
 rintro env h2 ⟨rfl, hgood, rfl⟩
 have A2 := fun (h' : Heap) (hl : Heap.le h2 h') => (hT.obj.le (hg.trans hl)).rules.1 2 (by simp)
 have A2' : h2.cell ((⟨b, 0, none⟩ : Addr).add 2) = some ev := A2 h2 (Heap.le.refl h2)
 refine sw1 @A2' ?_
 refine i_app Si.enc_len Si.enc_one (OwnS.nil (Heap.le.refl h2)) hs (by simp only [List.length_nil]; omega) fun v1 h3 ho1 => ?_
 rw [List.nil_append] at ho1
 have hle1 := ho1.1
 have O1 := ho1.one
 refine i_le (le_one hle1) ?_
 refine sw2 O1.1 O1.2 ?_
 refine i_bslB encV 1 (fun _ => rfl) [v1] rfl rfl (by simp [maxLen]) fun x1 b1 h4 hle2 hb1 hx1 hS1 => ?_
 have O2 := hS1.one
 refine sw2 O2.1 O2.2 ?_
 refine i_lew (le_one (hle1.trans hle2)) ?_
 refine sw0 ?_
 have hg4 := hg.trans (hle1.trans hle2)
 refine i_appB (enc := encV) (sz := 1) (fun _ => rfl) (by simp [encV, O1.1]) hT.evs hg4 (SlB.sl (enc := encV) (sz := 1) (fun _ => rfl) (hS1.le (fr_le _ _))) (by have := hT.vlen; simp; omega) fun v2 h5 g5 hS5 St5 e1 e2 e3 => ?_
 have O3 := hS5.one
 have hbn : h2 b ≠ none := by
  obtain ⟨_, c, t, h1, _⟩ := hT.obj.le hg
  dsimp only at h1; rw [h1]; simp
 have hevb : blkOf ev ≠ some b := fun e => (hT.e0 b e).2 rfl
 have hev2b : blkOf v2 ≠ some b := by
  intro e
  rcases e2 b e with h1 | h1
  ·exact hevb h1
  ·exact hbn (le_none (hle1.trans hle2) b h1)
 have hF5 : Heap.le (fr h2 h3) h5 := by
  intro x o hx
  refine e3 x o (hle2 x o (fr_le _ _ x o hx)) fun e => ?_
  have := hT.evs.mem e
  cases hgx : g x with
  | none => exact this hgx
  | some o' => rw [fr_none (hg x o' hgx)] at hx; cases hx
 have hFn : ∀ x, h2 x ≠ none → (fr h2 h3) x = none := by
  intro x hx
  cases hh : h2 x with
  | none => exact absurd hh hx
  | some o => exact fr_none hh
 have St6 : Step g h2 (join g5 (fr h2 h3)) h5 := Step.grow (hle1.trans hle2) St5 hF5 hFn
 have hob5 : objAt (join g5 (fr h2 h3)) ⟨b, 0, none⟩ [.int .i64 window, .int .i64 need, ev, .map (some mp)] := by
  have : g5 b = g b := e1 b hevb hev2b
  obtain ⟨q1, c, t, q2, q3⟩ := hT.obj
  refine ⟨q1, c, t, ?_, q3⟩
  dsimp only at q2 ⊢
  simp [join, this, q2]
 refine sw2 O3.1 O3.2 ?_
 refine i_st (hob5.le St6.le) 2 1 (by rw [O3.2]; rfl) (by rw [O3.2]; simp [O3.1]) oM (by simp) fun o1 hob6 _ => ?_
 refine sw0 ?_
 have hb5 : (join g5 (fr h2 h3)) b ≠ none := hob5.mem
 have St7 := St6.trans (Step.set St6.le hb5 o1)
 refine i_mnew (ek := encKS) (ev := encKI) fun m h6 hm0 hle6 hmE => ?_
 have St8 := St7.trans (Step.alloc St7.le hle6)
 have hob7 : objAt ((join g5 (fr h2 h3)).set b o1) ⟨b, 0, none⟩ [.int .i64 window, .int .i64 need, v2, .map (some mp)] := by
  have := hob6 (join g5 (fr h2 h3)) (by
   cases hh : (join g5 (fr h2 h3)) b with
   | none => exact absurd hh hb5
   | some o => exact (St6.le b o hh).symm)
  simpa [O3.2] using this
 have hob8 := hob7.le (join_l ((join g5 (fr h2 h3)).set b o1) (fr (h5.set b o1) h6))
 refine sw0 ?_
 refine i_st (hob8.le St8.le) 3 1 rfl rfl oM (by simp) fun o2 hob9 _ => ?_
 refine sw0 ?_
 have St9 := St8.trans (Step.set St8.le hob8.mem o2)
 refine hK2 hgood _ _ St9 ⟨v2, vs ++ [v1], m, [], [], 0, join g0 (fr h2 h3), ?_⟩
 have hg0b : (join g0 (fr h2 h3)) b = none := join_none hT.b0 (hFn b hbn)
 have hbl : b ≠ m := by
  rintro rfl
  rw [Heap.set_eq] at hm0; cases hm0
 have hle5 : Heap.le (join g0 (fr h2 h3)) (join g5 (fr h2 h3)) := by
  intro x o hx
  simp only [join] at hx ⊢
  cases h0x : g0 x with
  | some o' =>
   rw [h0x] at hx
   cases hx
   have hnx : blkOf ev ≠ some x := fun e => by have := (hT.e0 x e).1; rw [h0x] at this; cases this
   have hnx2 : blkOf v2 ≠ some x := by
    intro e
    rcases e2 x e with h1 | h1
    ·exact hnx h1
    ·have := (hT.le0.trans hg4) x _ h0x
     rw [h1] at this; cases this
   rw [e1 x hnx hnx2, hT.le0 x _ h0x]; rfl
  | none =>
   rw [h0x] at hx
   have hx' : fr h2 h3 x = some o := by simpa using hx
   cases h5x : g5 x with
   | none => simpa using hx'
   | some o' =>
    have a1 := St5.le x o' h5x
    have a2 := hF5 x o hx'
    rw [a1] at a2; simpa using a2
 have hle9 : ∀ G : Heap, Heap.le (join g0 (fr h2 h3)) G → ∀ o, Heap.le (join g0 (fr h2 h3)) (G.set b o) := by
  intro G hG o x ox hx
  have : x ≠ b := by intro e; subst e; rw [hg0b] at hx; cases hx
  rw [Heap.set_ne this]; exact hG x ox hx
 refine ⟨?_, ?_, by simp [hT.vlen], ?_, ?_, ?_, hg0b, ?_, ?_, fun k p hk => by simp [look_nil] at hk, by simp; omega, ?_⟩
 ·have := hob9 (join ((join g5 (fr h2 h3)).set b o1) (fr (h5.set b o1) h6)) (by
   cases hh : (join ((join g5 (fr h2 h3)).set b o1) (fr (h5.set b o1) h6)) b with
   | none => exact absurd hh hob8.mem
   | some o => exact (St8.le b o hh).symm)
  exact this
 ·refine SlB.same (g := g5) hS5 fun x hx => ?_
  have hxb : x ≠ b := by intro e; subst e; exact hev2b hx
  have h5x := hS5.mem hx
  cases hh : g5 x with
  | none => exact absurd hh h5x
  | some o =>
   rw [Heap.set_ne hxb]
   exact join_l _ _ x o (by rw [Heap.set_ne hxb]; exact join_l _ _ x o hh)
 ·exact hle9 _ ((hle9 _ hle5 o1).trans (join_l _ _)) o2
 ·intro i hi
  by_cases e : i < E.length
  ·have h1 : (vs ++ [v1]).getD i undef = vs.getD i undef := by simp [List.getD_eq_getElem?_getD, List.getElem?_append_left (show i < vs.length by rw [hT.vlen]; exact e)]
   have h2 : (E ++ [l]).getD i [] = E.getD i [] := by simp [List.getD_eq_getElem?_getD, List.getElem?_append_left e]
   rw [h1, h2]; exact (hT.rows i e).le (join_l _ _)
  ·have : i = E.length := by simp at hi; omega
   subst this
   have h1 : (vs ++ [v1]).getD E.length undef = v1 := by simp [List.getD_eq_getElem?_getD, ← hT.vlen]
   have h2 : (E ++ [l]).getD E.length [] = l := by simp [List.getD_eq_getElem?_getD]
   rw [h1, h2]
   exact (OwnS.slf2 Si.enc_len ho1).le (join_r (hT.le0.trans (hg.trans hle1)) (fr_le _ _))
 ·have h1 := hmE.le (join_r (g := (join g5 (fr h2 h3)).set b o1) ((St7.le).trans hle6) (fr_le _ _))
  exact h1.set_ne (Ne.symm hbl)
 ·have h3 := le_none ((hle9 _ hle5 o1).trans St7.le) m hm0
  exact h3
 ·intro x hx
  have hxb : x ≠ b := by intro e; subst e; exact hev2b hx
  refine ⟨?_, hxb⟩
  rcases e2 x hx with h1 | h1
  ·refine join_none (hT.e0 x h1).1 (hFn x fun h => ?_)
   exact hT.evs.mem h1 (le_none hg x h)
  ·exact join_none (le_none (hT.le0.trans hg4) x h1) (le_none ((fr_le _ _).trans hle2) x h1)
 ·intro l' hl'
  rw [List.mem_append, List.mem_singleton] at hl'
  rcases hl' with hl' | rfl
  ·exact hT.rlen l' hl'
  ·exact hll
end Go.Cw
namespace Go.Cw
open Go Go.Sort Go.Proofs
def encEp (e : Nat × Value) : List Value := [.int .i64 (e.1 : Nat), e.2]
theorem encEp_len (e : Nat × Value) : (encEp e).length = 2 := rfl
structure OutP (Gf H : Heap) (v : Value) (L : List (Nat × List Si)) (es : List (Nat × Value)) (Z : Heap) : Prop where
 sl : SlB encEp 2 H v es
 own : ∀ b, blkOf v = some b → Gf b = none ∧ Z b = none
 le : Heap.le Z H
 fz : ∀ b, Z b ≠ none → Gf b = none
 len : es.length = L.length
 el : ∀ i, i < L.length → (es.getD i default).1 = (L.getD i default).1 ∧ Sl Si.enc Z (es.getD i default).2 (L.getD i default).2 ∧ Cw.one (es.getD i default).2 = true
def Outs (Gf H : Heap) (v : Value) (L : List (Nat × List Si)) : Prop := ∃ es Z, OutP Gf H v L es Z
theorem Outs.nil {Gf H : Heap} : Outs Gf H (.slice none 0 0) [] := ⟨[], fun _ => none, SlB.nil, by simp [blkOf], fun _ _ h => (by cases h), fun _ h => absurd rfl h, rfl, fun i hi => by simp at hi⟩
theorem Outs.mono {Gf H H' : Heap} {v : Value} {L : List (Nat × List Si)} (a : Outs Gf H v L) (hl : Heap.le H H') : Outs Gf H' v L := by
 obtain ⟨es, Z, h⟩ := a
 exact ⟨es, Z, { h with sl := h.sl.le hl, le := h.le.trans hl }⟩
theorem i_push {N : Num} {Γ : Ctx} {Gf H Z2 : Heap} {v x : Value} {L : List (Nat × List Si)} {t n : Nat} {sv : Value} {l : List Si} (a : Outs Gf H v L) (hx : Sl encEp H x [(n, sv)]) (hG : Heap.le Gf H) (hZ : Heap.le Z2 H) (hZf : ∀ b, Z2 b ≠ none → Gf b = none) (hZv : ∀ b, blkOf v = some b → Z2 b = none) (hs : Sl Si.enc Z2 sv l) (h1 : Cw.one sv = true) (hlen : L.length ≤ 10000) {K : Value → Heap → Prop}
  (hK : ∀ v' H', Outs Gf H' v' (L ++ [(n, l)]) → kv v H H' → K v' H') : efW N Γ (.app t 2 32) [v, x] H K := by
 obtain ⟨es, Z, h⟩ := a
 have hel := h.len
 refine i_appB (enc := encEp) (sz := 2) (g := H) (l := es) (l' := [(n, sv)]) encEp_len (by intro x hx; simp only [List.mem_singleton] at hx; subst hx; simp only [encEp, List.all_cons, List.all_nil, h1, Bool.and_true]; rfl) h.sl (Heap.le.refl H) hx (by simp; omega) fun v' H' g' hS' St' e1 e2 e3 => ?_
 have hfr : ∀ b, blkOf v' = some b → Gf b = none ∧ join Z Z2 b = none := by
  intro b hb
  rcases e2 b hb with h5 | h5
  ·exact ⟨(h.own b h5).1, join_none (h.own b h5).2 (hZv b h5)⟩
  ·exact ⟨le_none hG b h5, join_none (le_none h.le b h5) (le_none hZ b h5)⟩
 have hZH : Heap.le (join Z Z2) H := join_le h.le hZ
 have hnv : ∀ b, blkOf v = some b → join Z Z2 b = none := fun b hb => join_none (h.own b hb).2 (hZv b hb)
 have hZ' : Heap.le (join Z Z2) H' := by
  intro b o hb
  refine e3 b o (hZH b o hb) fun e => ?_
  rw [hnv b e] at hb; cases hb
 refine hK v' H' ⟨es ++ [(n, sv)], join Z Z2, ⟨hS'.le St'.le, hfr, hZ', fun b hb => ?_, by simp [hel], fun i hi => ?_⟩⟩ fun b o hb hne => e3 b o hb hne
 ·simp only [join] at hb
  cases hz : Z b with
  | some o => exact h.fz b (by rw [hz]; simp)
  | none => rw [hz] at hb; exact hZf b (by simpa using hb)
 ·by_cases hi2 : i < L.length
  ·have g1 : (es ++ [(n, sv)]).getD i default = es.getD i default := by rw [List.getD_eq_getElem?_getD, List.getElem?_append_left oM, ← List.getD_eq_getElem?_getD]
   have g2 : (L ++ [(n, l)]).getD i default = L.getD i default := by rw [List.getD_eq_getElem?_getD, List.getElem?_append_left hi2, ← List.getD_eq_getElem?_getD]
   rw [g1, g2]
   obtain ⟨q1, q2, q3⟩ := h.el i hi2
   exact ⟨q1, q2.le (join_l _ _), q3⟩
  ·have hie : i = L.length := by simp at hi; omega
   subst hie
   have g1 : (es ++ [(n, sv)]).getD L.length default = (n, sv) := by rw [← hel]; simp [List.getD]
   have g2 : (L ++ [(n, l)]).getD L.length default = (n, l) := by simp [List.getD]
   rw [g1, g2]
   exact ⟨rfl, hs.le (join_r (g := Z) h.le hZ), h1⟩
def rest (g h : Heap) : Heap := fun b => if g b = none then h b else none
theorem rest_le (g h : Heap) : Heap.le (rest g h) h := by
 intro b o hb; unfold rest at hb; split at hb
 ·exact hb
 ·cases hb
def closE (size late A0 A1 : Nat) (A : List Si) : List (Nat × List Si) := (List.range' (clos size late A0) (clos size late A1 - clos size late A0)).map fun k => (k, ofE size A k)
theorem range'_snoc (s n : Nat) : List.range' s (n + 1) = List.range' s n ++ [s + n] := by
 rw [List.range'_concat]; simp
end Go.Cw
namespace Go.Cw
open Go Go.Sort Go.Proofs
def adBad (now : Nat) (s : Si) : Prop := s.place < 0 ∨ 7 < s.place ∨ s.strength < 0 ∨ 255 < s.strength ∨ s.time < 0 ∨ (now : Int) < s.time ∨ s.tag.length ≠ 8
instance (now : Nat) (s : Si) : Decidable (adBad now s) := by unfold adBad; infer_instance
def adF (size late now : Nat) (s : Si) : Nat := if adBad now s then 1 else if ep size s < clos size late now then 6 else 0
end Go.Cw
namespace Go.Cw
open Go Go.Sort Go.Proofs
def opn (size late now : Nat) (A : List Si) (k : Nat) : List Si := if clos size late now ≤ k then A.filter (fun s => decide (ep size s = k)) else []
def vof (kv : List (Int × Value)) (n : Int) : Value := (look kv n).getD (.slice none 0 0)
structure PDp (g : Heap) (p size late now : Nat) (A : List Si) (mw : Nat) (kv : List (Int × Value)) (bs : List Nat) (ck : Nat) : Prop where
 obj : objAt g ⟨p, 0, none⟩ [.int .i64 size, .int .i64 late, .int .i64 now, .int .i64 (clos size late now : Nat), .map (some mw)]
 wm : MapB encKI id g mw kv bs ck
 pm : p ≠ mw
 no : ∀ k : Nat, look kv (k : Int) = none → opn size late now A k = []
 so : ∀ (n : Int) v, look kv n = some v → ∃ (k : Nat) (x : Nat), n = k ∧ blkOf v = some x ∧ x ≠ p ∧ x ≠ mw ∧ SlB Si.enc 4 g v (opn size late now A k)
 inj : ∀ n n' v v', look kv n = some v → look kv n' = some v' → blkOf v = blkOf v' → n = n'
def PD (g : Heap) (p size late now : Nat) (A : List Si) : Prop := ∃ mw kv bs ck, PDp g p size late now A mw kv bs ck
theorem MapB.lkpE {h : Heap} {m : Nat} {kv : List (Int × Value)} {bs : List Nat} {ck : Nat} (hm : MapB encKI id h m kv bs ck) (n : Int) : o2V h (.lkp .int (.slice none 0 0)) (.v (.map (some m))) (.v (.int .i64 n)) = some (.v (vof kv n)) := by
 have := (hm.rules .int).1 (.slice none 0 0) n
 rw [show (Value.int .i64 n) = encKI n from rfl, this]
 unfold vof
 cases look kv n <;> rfl
def epBad (size late : Int) : Prop := size < 1 ∨ 50 < size ∨ late < 0 ∨ 50 < late
def S33 (N : Num) : Spec := fun args h K => ∃ size late, args = [.int .i64 size, .int .i64 late] ∧ (epBad size late → K (.tuple #[.pointer none, errV N 1]) h) ∧
 (¬ epBad size late → ∀ p h', h p = none → Heap.le h h' → PD (fr h h') p size.toNat late.toNat 0 [] → K (.tuple #[.pointer (some ⟨p, 0, none⟩), .nilIface]) h')
theorem F33_ok {N : Num} {Γ : Ctx} [GoodC Γ] : Sat (S33 N) (SF N Γ F33) := by
 rintro _ h K ⟨size, late, rfl, hK1, hK2⟩
 unfold epBad at hK1 hK2
 refine i_fun rfl ?_
 simp only [F33, Ze, Nat.reduceSub, Nat.reduceAdd]
 refine sw0 ?_
 refine i_cond (fun c => ?_) (fun c => ?_)
 ·refine sw0 ?_
  exact hK1 oM
 refine sw0 ?_
 refine i_mnew (ek := encKI) (ev := (id : Value → Value)) fun m h1 hm0 hle1 hmE => ?_
 refine sw0 ?_
 refine i_newO fun p h2 hle2 hp ho => ?_
 refine sw0 ?_
 have hpm : p ≠ m := by
  rintro rfl
  obtain ⟨es, q, _⟩ := hmE.le (fr_le _ _)
  rw [q] at hp; cases hp
 refine hK2 oM p h2 (le_none hle1 p hp) (hle1.trans hle2) ⟨m, [], [], 0, ?_, hmE.le (fr_mono hle2), hpm, fun k _ => by simp [opn], fun n v h => by simp [look_nil] at h, fun n n' v v' h => by simp [look_nil] at h⟩
 have h3 := ho.le (fr_fr hle1)
 have e1 : ((size.toNat : Nat) : Int) = size := oM
 have e2 : ((late.toNat : Nat) : Int) = late := oM
 have e3 : clos size.toNat late.toNat 0 = 0 := by simp [clos]
 rw [e1, e2, e3]
 exact h3
theorem PDp.read {g h : Heap} {p size late now : Nat} {A : List Si} {mw : Nat} {kv : List (Int × Value)} {bs : List Nat} {ck : Nat} (hP : PDp g p size late now A mw kv bs ck) (hg : Heap.le g h) :
  h.cell ((⟨p, 0, none⟩ : Addr).add 0) = some (.int .i64 size) ∧ h.cell ((⟨p, 0, none⟩ : Addr).add 1) = some (.int .i64 late) ∧ h.cell ((⟨p, 0, none⟩ : Addr).add 2) = some (.int .i64 now) ∧ h.cell ((⟨p, 0, none⟩ : Addr).add 3) = some (.int .i64 (clos size late now : Nat)) ∧ h.cell ((⟨p, 0, none⟩ : Addr).add 4) = some (.map (some mw)) := by
 have ho := hP.obj.le hg
 exact ⟨ho.rules.1 0 (by simp), ho.rules.1 1 (by simp), ho.rules.1 2 (by simp), ho.rules.1 3 (by simp), ho.rules.1 4 (by simp)⟩
def S39 : Spec := fun args h K => ∃ g p size late now A, args = [.pointer (some ⟨p, 0, none⟩)] ∧ PD g p size late now A ∧ Heap.le g h ∧ K (.int .i64 (now : Nat)) h
theorem F39_ok {N : Num} {Γ : Ctx} [GoodC Γ] : Sat S39 (SF N Γ F39) := by
 rintro _ h K ⟨g, p, size, late, now, A, rfl, ⟨mw, kv, bs, ck, hP⟩, hg, hK⟩
 obtain ⟨c0, c1, c2, c3, c4⟩ := hP.read hg
 refine i_fun rfl ?_
 simp only [F39, Ze, Nat.reduceSub, Nat.reduceAdd]
 refine sw1 @c2 ?_
 exact hK
theorem PDp.vsl {g : Heap} {p size late now : Nat} {A : List Si} {mw : Nat} {kv : List (Int × Value)} {bs : List Nat} {ck : Nat} (hP : PDp g p size late now A mw kv bs ck) (k : Nat) :
  SlB Si.enc 4 g (vof kv k) (opn size late now A k) ∧ blkOf (vof kv k) ≠ some p ∧ blkOf (vof kv k) ≠ some mw := by
 unfold vof
 cases hl : look kv (k : Int) with
 | none => rw [hP.no k hl]; exact ⟨SlB.nil, by simp [blkOf], by simp [blkOf]⟩
 | some v =>
  obtain ⟨k', x, e, h1, h2, h3, h4⟩ := hP.so _ _ hl
  obtain rfl : k = k' := oM
  exact ⟨h4, by simp [h1, h2], by simp [h1, h3]⟩
def two (p m : Nat) (h : Heap) : Heap := fun b => if b = p ∨ b = m then h b else none
theorem two_le {p m : Nat} {h h' : Heap} (h1 : ∀ o, h p = some o → h' p = some o) (h2 : ∀ o, h m = some o → h' m = some o) : Heap.le (two p m h) h' := by
 intro b o hb
 unfold two at hb
 split at hb
 ·rename_i e
  rcases e with rfl | rfl
  ·exact h1 o hb
  ·exact h2 o hb
 ·cases hb
theorem objAt.nsetE {h : Heap} {b m : Nat} {o : Obj} {cs : List Value} (ho : objAt h ⟨b, 0, none⟩ cs) (hm : b ≠ m) : objAt (h.set m o) ⟨b, 0, none⟩ cs := but.obj (b := m) (fun x hx => Heap.set_ne hx) hm ho
def S37 (N : Num) : Spec := fun args h K => ∃ g p, ∃ size late now : Nat, ∃ A s, args = [.pointer (some ⟨p, 0, none⟩), aggS s] ∧ PD g p size late now A ∧ Heap.le g h ∧ 0 < size ∧ size ≤ 1000 ∧ late ≤ 1000 ∧ now ≤ 1000 ∧ A.length < 2000 ∧
 (adF size late now s ≠ 0 → K (errV N (adF size late now s)) h) ∧ (adF size late now s = 0 → ∀ g' h', Step g h g' h' → PD g' p size late now (A ++ [s]) → K .nilIface h')
theorem F37_ok {N : Num} {Γ : Ctx} [GoodC Γ] : Sat (S37 N) (SF N Γ F37) := by
 rintro _ h K ⟨g, p, size, late, now, A, s, rfl, ⟨mw, kv, bs, ck, hP⟩, hg, hs1, hs2, hl, hn, hA, hK1, hK2⟩
 obtain ⟨c0, c1, c2, c3, c4⟩ := hP.read hg
 refine i_fun rfl ?_
 simp only [F37, Ze, Nat.reduceSub, Nat.reduceAdd, aggS]
 unfold adF at hK1 hK2
 refine sw1 @c2 ?_
 refine i_cond (fun cc => ?_) (fun cc => ?_)
 ·have hb : adBad now s := by unfold adBad; omega
  rw [if_pos hb] at hK1
  refine sw0 ?_
  exact hK1 oM
 have hb : ¬ adBad now s := by unfold adBad; omega
 rw [if_neg hb] at hK1 hK2
 unfold adBad at hb
 obtain ⟨tn, htn⟩ : ∃ tn : Nat, s.time = tn := ⟨s.time.toNat, oM⟩
 have hep : ep size s = tn / size := by unfold ep; rw [htn, Int.toNat_natCast]
 have hq : Int.tdiv (tn : Int) (size : Int) = ((tn / size : Nat) : Int) := rfl
 have htnl : tn / size ≤ tn := Nat.div_le_self _ _
 have hwq : IntKind.i64.wrap ((tn / size : Nat) : Int) = ((tn / size : Nat) : Int) := w64 oM oM
 have hsz0 : ((size : Int) = 0) = False := by rw [eq_iff_iff]; simp; omega
 rw [hep] at hK1 hK2
 rw [htn]
 generalize hk : tn / size = k at *
 refine sw5 @c0 @hq @hwq @hsz0 @c3 ?_
 refine i_cond (fun cc2 => ?_) (fun cc2 => ?_)
 ·rw [if_pos oM] at hK1
  refine sw0 ?_
  exact hK1 oM
 rw [if_neg oM] at hK2
 have hm := (hP.wm.le hg).lkpE (k : Int)
 obtain ⟨hvs, hvp, hvm⟩ := hP.vsl k
 have OV := hvs.one
 refine sw2 @c4 @hm ?_
 have htwo : ∀ H : Heap, (∀ o, h p = some o → H p = some o) → (∀ o, h mw = some o → H mw = some o) → Heap.le (two p mw h) H := fun H h1 h2 => two_le h1 h2
 have htp : ∀ {x : Value}, h.cell ((⟨p, 0, none⟩ : Addr).add 4) = some x → (two p mw h).cell ((⟨p, 0, none⟩ : Addr).add 4) = some x := fun {x} hx => by
  have : two p mw h p = h p := by simp [two]
  simpa [Heap.cell, Heap.cells, this, Addr.add] using hx
 have hmt : o2V (two p mw h) (.lkp .int (.slice none 0 0)) (.v (.map (some mw))) (.v (.int .i64 (k : Int))) = some (.v (vof kv k)) := by
  obtain ⟨es, q1, q2⟩ := hP.wm.le hg
  exact MapB.lkpE (h := two p mw h) ⟨es, by simp [two, q1], q2⟩ k
 refine i_bslB Si.enc 4 Si.enc_len [s] (by simp [Si.enc, htn]) rfl (by simp [maxLen]) fun x1 b1 h1 hle1 hb1 hx1 hS1 => ?_
 have O2 := hS1.one
 have hle2 := htwo h1 (fun o => hle1 p o) (fun o => hle1 mw o)
 refine i_lex (two p mw h) (htwo h (fun o h => h) (fun o h => h)) ?_ (le_one hle2) ?_
 ·intro l' hl'
  simp only [List.mem_cons, List.not_mem_nil, or_false] at hl'
  have c4' := htp c4
  rcases hl' with rfl | rfl | rfl
  ·exact ⟨true, rfl, fun _ => ⟨.v (.map (some mw)), by try simp (disch := first | omega | (simp only [PL]; omega)) only [Zr, simprocAttr, -reduceIte, c4']⟩⟩
  ·exact ⟨true, rfl, fun _ => ⟨.v (.map (some mw)), by try simp (disch := first | omega | (simp only [PL]; omega)) only [Zr, simprocAttr, -reduceIte, c4']⟩⟩
  ·exact ⟨true, rfl, fun _ => ⟨.v (vof kv k), by try simp (disch := first | omega | (simp only [PL]; omega)) only [Zr, simprocAttr, -reduceIte, c4', hmt]⟩⟩
 refine sw4 O2.1 O2.2 OV.1 OV.2 ?_
 have hln : (opn size late now A k).length ≤ A.length := by unfold opn; split; exact List.length_filter_le _ _; simp
 refine i_appB (enc := Si.enc) (sz := 4) (g := g) (l := opn size late now A k) (l' := [s]) Si.enc_len (by simp [Si.enc, one]) hvs (hg.trans hle1) (SlB.sl Si.enc_len (hS1.le (fr_le _ _))) (by simp; omega) fun v2 h2 g2 hS2 St2 e1 e2 e3 => ?_
 have hgp : g p ≠ none := by obtain ⟨_, c, t, q, _⟩ := hP.obj; rw [q]; simp
 have hgm : g mw ≠ none := by obtain ⟨es, q, _⟩ := hP.wm; rw [q]; simp
 have hv2n : ∀ b, g b ≠ none → blkOf (vof kv k) ≠ some b → blkOf v2 ≠ some b := by
  intro b hb hnb e
  rcases e2 b e with h5 | h5
  ·exact hnb h5
  ·exact hb (le_none (hg.trans hle1) b h5)
 have hv2p := hv2n p hgp hvp
 have hv2m := hv2n mw hgm hvm
 have hsame : ∀ b, g b ≠ none → blkOf (vof kv k) ≠ some b → g2 b = g b := fun b hb hnb => e1 b hnb (hv2n b hb hnb)
 have hwm2 : MapB encKI id g2 mw kv bs ck := by
  obtain ⟨es, q1, q2⟩ := hP.wm
  exact ⟨es, by rw [hsame mw hgm hvm]; exact q1, q2⟩
 have O3 := hS2.one
 have hle3 : Heap.le (two p mw h) h2 := htwo h2 (fun o hx => e3 p o (hle1 p o hx) hvp) (fun o hx => e3 mw o (hle1 mw o hx) hvm)
 refine sw0 ?_
 refine i_lew (le_one hle3) ?_
 refine sw2 O3.1 O3.2 ?_
 refine i_mupd (ek := encKI) (ev := (id : Value → Value)) hwm2 St2.le (k : Int) v2 fun o bs' ck' hm' St' _ => ?_
 refine sw0 ?_
 obtain ⟨x2, hx2⟩ : ∃ x, blkOf v2 = some x := by
  obtain ⟨a, cap, rfl, q1, q2, q3⟩ := hS2
  rcases q3 with ⟨_, e, _⟩ | ⟨b, c, t, rfl, _⟩
  ·simp at e
  ·exact ⟨b, rfl⟩
 have hopn : ∀ k' : Nat, opn size late now (A ++ [s]) k' = if k' = k then opn size late now A k ++ [s] else opn size late now A k' := by
  intro k'
  unfold opn
  by_cases hkk : k' = k
  ·subst hkk
   rw [if_pos rfl, if_pos oM, if_pos oM, List.filter_append]
   congr 1
   rw [List.filter_cons_of_pos (by simp [hep])]; rfl
  ·rw [if_neg hkk]
   by_cases hc : clos size late now ≤ k'
   ·rw [if_pos hc, if_pos hc, List.filter_append]
    have : [s].filter (fun s => decide (ep size s = k')) = [] := by rw [List.filter_cons_of_neg (by simp [hep]; omega)]; rfl
    rw [this, List.append_nil]
   ·rw [if_neg hc, if_neg hc]
 refine hK2 rfl _ _ (((Step.more hg hle1).trans St2).trans St') ⟨mw, _, _, _, ?_, hm', hP.pm, fun k' hk' => ?_, fun n v hv => ?_, fun n n' v v' hv hv' he => ?_⟩
 ·exact (objAt_kept hP.obj fun o' ho' => by rw [hsame p hgp hvp]; exact ho').nsetE hP.pm
 ·rw [look_upd] at hk'
  split at hk'
  ·cases hk'
  ·rename_i hne
   rw [hopn k', if_neg oM]; exact hP.no k' hk'
 ·rw [look_upd] at hv
  split at hv
  ·rename_i e
   cases hv
   refine ⟨k, x2, e, hx2, fun e' => hv2p (by rw [hx2, e']), fun e' => hv2m (by rw [hx2, e']), ?_⟩
   rw [hopn k, if_pos rfl]
   exact hS2.same fun b hb => Heap.set_ne (by rintro rfl; exact hv2m hb)
  ·rename_i hne
   obtain ⟨k', x, e, q1, q2, q3, q4⟩ := hP.so n v hv
   refine ⟨k', x, e, q1, q2, q3, ?_⟩
   rw [hopn k', if_neg oM]
   refine q4.same fun b hb => ?_
   rw [Heap.set_ne (by rintro rfl; rw [q1] at hb; exact q3 (by simpa using hb))]
   refine hsame b (q4.mem hb) fun e' => hne ?_
   unfold vof at e'
   cases hl : look kv (k : Int) with
   | none => rw [hl] at e'; simp [blkOf] at e'
   | some u =>
    rw [hl] at e'
    exact hP.inj n k v u hv hl (by rw [hb]; exact e'.symm)
 ·rw [look_upd] at hv hv'
  have hno : ∀ n v, look kv n = some v → n ≠ (k : Int) → blkOf v ≠ blkOf v2 := by
   intro n v hv hne he
   obtain ⟨k', x, e, q1, q2, q3, q4⟩ := hP.so n v hv
   have hgx := q4.mem q1
   refine hv2n x hgx (fun e' => ?_) (by rw [← he]; exact q1)
   unfold vof at e'
   cases hl : look kv (k : Int) with
   | none => rw [hl] at e'; simp [blkOf] at e'
   | some u =>
    rw [hl] at e'
    exact hne (hP.inj n k v u hv hl (by rw [q1]; exact e'.symm))
  by_cases h1 : n = (k : Int)
  ·by_cases h2 : n' = (k : Int)
   ·omega
   ·rw [if_pos h1] at hv; rw [if_neg h2] at hv'
    cases hv
    exact absurd he.symm (hno n' v' hv' h2)
  ·rw [if_neg h1] at hv
   by_cases h2 : n' = (k : Int)
   ·rw [if_pos h2] at hv'
    cases hv'
    exact absurd he (hno n v hv h1)
   ·rw [if_neg h2] at hv'
    exact hP.inj n n' v v' hv hv' he
end Go.Cw
namespace Go.Cw
open Go
section
variable {κ ν : Type} [DecidableEq κ]
theorem zip_erase {α β γ : Type} (f : α → β → γ) : ∀ (l : List α) (m : List β) (j : Nat), l.length = m.length → List.zipWith f (l.eraseIdx j) (m.eraseIdx j) = (List.zipWith f l m).eraseIdx j := by
 intro l
 induction l with
 | nil => intro m j h; cases m <;> simp at h ⊢
 | cons a l ih =>
  intro m j h
  cases m with
  | nil => simp at h
  | cons b m =>
   cases j with
   | zero => simp
   | succ j => simp only [List.eraseIdx_cons_succ, List.zipWith_cons_cons]; rw [ih m j (by simpa using h)]
theorem look_erase : ∀ (kv : List (κ × ν)) (k : κ) (i j : Nat) (x : ν), (kv.map (·.1)).Nodup → lookI kv k i = some (j, x) → i ≤ j ∧ j - i < kv.length ∧ ∀ k', look (kv.eraseIdx (j - i)) k' = if k' = k then none else look kv k' := by
 intro kv
 induction kv with
 | nil => intro k i j x _ h; simp [lookI] at h
 | cons p r ih =>
  intro k i j x hn h
  have hn' := List.nodup_cons.1 (show (p.1 :: r.map (·.1)).Nodup by simpa using hn)
  simp only [lookI] at h
  split at h
  ·rename_i e
   simp only [Option.some.injEq, Prod.mk.injEq] at h
   obtain ⟨rfl, rfl⟩ := h
   refine ⟨Nat.le_refl _, by simp, fun k' => ?_⟩
   rw [Nat.sub_self, List.eraseIdx_cons_zero, look_cons]
   by_cases hk : k' = k
   ·subst hk
    rw [if_pos rfl]
    cases hl : look r k' with
    | none => rfl
    | some u =>
     have := look_mem hl
     exact absurd (List.mem_map.2 ⟨_, this, rfl⟩) (by rw [e]; exact hn'.1)
   ·rw [if_neg hk, if_neg (by rw [← e]; exact hk)]
  ·rename_i e
   obtain ⟨h1, h2, h3⟩ := ih k (i + 1) j x hn'.2 h
   have hj : j - i = (j - (i + 1)) + 1 := oM
   refine ⟨oM, by simp; omega, fun k' => ?_⟩
   rw [hj, List.eraseIdx_cons_succ, look_cons, look_cons, h3 k']
   by_cases hk : k' = k
   ·subst hk
    rw [if_neg e, if_pos rfl, if_pos rfl]
   ·rw [if_neg hk, if_neg hk]
theorem i_mdel {kb : Bk} {ek : κ → Value} [KeyOk kb ek] {ev : ν → Value} {N : Num} {Γ : Ctx} {g h : Heap} {m : Nat} {kv : List (κ × ν)} {bs : List Nat} {ck : Nat} (hm : MapB ek ev g m kv bs ck) (hg : Heap.le g h) (k : κ) {K : Value → Heap → Prop}
  (hK : ∀ g' h' kv' bs', MapB ek ev g' m kv' bs' ck → Heap.le g' h' → (∀ k', look kv' k' = if k' = k then none else look kv k') → (∀ b, b ≠ m → g' b = g b) → (∀ b, b ≠ m → h' b = h b) → K undef h') : efW N Γ (.mdel kb) [.map (some m), ek k] h K := by
 obtain ⟨es, h1, h2, h3, h4, h5, h6⟩ := hm
 have hgm : g m ≠ none := by rw [h1]; simp
 refine ⟨es, ck, hg _ _ h1, _, by rw [h2]; exact findE_eq k kv bs 0 h3, ?_⟩
 cases hl : lookI kv k 0 with
 | none =>
  simp only [Option.map_none]
  refine hK g h kv bs ⟨es, h1, h2, h3, h4, h5, h6⟩ hg (fun k' => ?_) (fun b _ => rfl) fun b _ => rfl
  by_cases hk : k' = k
  ·subst hk
   rw [if_pos rfl]; unfold look; rw [hl]; rfl
  ·rw [if_neg hk]
 | some p =>
  obtain ⟨j, x⟩ := p
  simp only [Option.map_some]
  obtain ⟨_, hjl, hlk⟩ := look_erase kv k 0 j x h6 hl
  rw [Nat.sub_zero] at hjl hlk
  refine hK (g.set m (.map (es.eraseIdxIfInBounds j) ck)) _ (kv.eraseIdx j) (bs.eraseIdx j) ⟨_, Heap.set_eq, ?_, ?_, ?_, fun b hb => h5 b (List.mem_of_mem_eraseIdx hb), ?_⟩ ?_ hlk (fun b hb => Heap.set_ne hb) fun b hb => Heap.set_ne hb
  ·rw [zip_erase _ _ _ _ h3.symm, ← h2, Array.eraseIdxIfInBounds]
   have : j < es.size := by
    have := congrArg List.length h2
    simp at this; omega
   simp [this]
  ·rw [List.length_eraseIdx, List.length_eraseIdx, h3]
  ·exact h4.sublist (List.eraseIdx_sublist _ _)
  ·exact h6.sublist ((List.eraseIdx_sublist kv j).map _)
  ·exact (Step.set hg hgm _).le
end
end Go.Cw
namespace Go.Cw
open Go Go.Sort Go.Proofs
def Less (N : Num) (Γ : Ctx) (F : Heap) (v : Value) (fl : Nat) (cl : Array Value) (lt : Si → Si → Bool) (n : Nat) : Prop :=
 ∀ (H : Heap) (d : Array Si) (i j : Nat) (K : Value → Heap → Prop), d.size = n → Rw F H v d → i < n → j < n → (∀ H', Heap.le H H' → K (.bool (lt d[i]! d[j]!)) H') → efW N Γ .cal [.func (.func fl) #[] cl, .int .i64 i, .int .i64 j] H K
def S61 (N : Num) (Γ : Ctx) : Spec := fun args h K => ∃ F v fl cl lt d, args = [.iface (N.tid 64) v, .func (.func fl) #[] cl] ∧ Less N Γ F v fl cl lt d.size ∧ d.size ≤ 100000000 ∧ SWO lt ∧ Rw F h v d ∧
 ∀ h' d', Rw F h' v d' → PermIn 0 d.size d d' → SortedIn lt 0 d.size d' → kv v h h' → K (.tuple #[]) h'
end Go.Cw
namespace Go.Cw
open Go Go.Sort Go.Proofs
def opnN (size next : Nat) (A : List Si) (k : Nat) : List Si := if next ≤ k then A.filter (fun s => decide (ep size s = k)) else []
structure PDq (g : Heap) (p size late now next : Nat) (A : List Si) (mw : Nat) (kv : List (Int × Value)) (bs : List Nat) (ck : Nat) : Prop where
 obj : objAt g ⟨p, 0, none⟩ [.int .i64 size, .int .i64 late, .int .i64 now, .int .i64 next, .map (some mw)]
 wm : MapB encKI id g mw kv bs ck
 pm : p ≠ mw
 no : ∀ k : Nat, look kv (k : Int) = none → opnN size next A k = []
 so : ∀ (n : Int) v, look kv n = some v → ∃ (k : Nat) (x : Nat), n = k ∧ blkOf v = some x ∧ x ≠ p ∧ x ≠ mw ∧ SlB Si.enc 4 g v (opnN size next A k)
 inj : ∀ n n' v v', look kv n = some v → look kv n' = some v' → blkOf v = blkOf v' → n = n'
theorem PDp.q {g : Heap} {p size late now : Nat} {A : List Si} {mw : Nat} {kv : List (Int × Value)} {bs : List Nat} {ck : Nat} (h : PDp g p size late now A mw kv bs ck) : PDq g p size late now (clos size late now) A mw kv bs ck := ⟨h.obj, h.wm, h.pm, h.no, h.so, h.inj⟩
theorem PDq.p {g : Heap} {p size late now : Nat} {A : List Si} {mw : Nat} {kv : List (Int × Value)} {bs : List Nat} {ck : Nat} (h : PDq g p size late now (clos size late now) A mw kv bs ck) : PDp g p size late now A mw kv bs ck := ⟨h.obj, h.wm, h.pm, h.no, h.so, h.inj⟩
theorem PDq.vsl {g : Heap} {p size late now next : Nat} {A : List Si} {mw : Nat} {kv : List (Int × Value)} {bs : List Nat} {ck : Nat} (hP : PDq g p size late now next A mw kv bs ck) (k : Nat) :
  SlB Si.enc 4 g (vof kv k) (opnN size next A k) ∧ blkOf (vof kv k) ≠ some p ∧ blkOf (vof kv k) ≠ some mw := by
 unfold vof
 cases hl : look kv (k : Int) with
 | none => rw [hP.no k hl]; exact ⟨SlB.nil, by simp [blkOf], by simp [blkOf]⟩
 | some v =>
  obtain ⟨k', x, e, h1, h2, h3, h4⟩ := hP.so _ _ hl
  obtain rfl : k = k' := oM
  exact ⟨h4, by simp [h1, h2], by simp [h1, h3]⟩
theorem PDq.setp {g : Heap} {p size late now next : Nat} {A : List Si} {mw : Nat} {kv : List (Int × Value)} {bs : List Nat} {ck : Nat} (hP : PDq g p size late now next A mw kv bs ck) {o : Obj} {now' next' : Nat} (ho : objAt (g.set p o) ⟨p, 0, none⟩ [.int .i64 size, .int .i64 late, .int .i64 now', .int .i64 next', .map (some mw)])
  (hn : ∀ k : Nat, look kv (k : Int) = none → opnN size next' A k = []) (hs : ∀ (n : Int) v, look kv n = some v → ∀ k : Nat, n = k → opnN size next' A k = opnN size next A k) : PDq (g.set p o) p size late now' next' A mw kv bs ck := by
 refine ⟨ho, ?_, hP.pm, hn, fun n v hv => ?_, hP.inj⟩
 ·obtain ⟨es, q1, q2⟩ := hP.wm
  exact ⟨es, by rw [Heap.set_ne (Ne.symm hP.pm)]; exact q1, q2⟩
 ·obtain ⟨k, x, e, h1, h2, h3, h4⟩ := hP.so n v hv
  refine ⟨k, x, e, h1, h2, h3, ?_⟩
  rw [hs n v hv k e]
  exact h4.same fun b hb => Heap.set_ne (by rintro rfl; rw [h1] at hb; exact h2 (by simpa using hb))
theorem Outs.step {Gf Gf' H H' : Heap} {v : Value} {L : List (Nat × List Si)} (a : Outs Gf H v L) (hk : ∀ b o, H b = some o → Gf b = none → H' b = some o) (hf : ∀ b, H b ≠ none → Gf b = none → Gf' b = none) : Outs Gf' H' v L := by
 obtain ⟨es, Z, h⟩ := a
 have hm : ∀ b, blkOf v = some b → H b ≠ none := fun b hb => h.sl.mem hb
 refine ⟨es, Z, h.sl.same fun b hb => ?_, fun b hb => ⟨hf b (hm b hb) (h.own b hb).1, (h.own b hb).2⟩, fun b o hb => hk b o (h.le b o hb) (h.fz b (by rw [hb]; simp)), fun b hb => hf b ?_ (h.fz b hb), h.len, h.el⟩
 ·cases hh : H b with
  | none => exact absurd hh (hm b hb)
  | some o => exact hk b o hh (h.own b hb).1
 ·cases hz : Z b with
  | none => exact absurd hz hb
  | some o => rw [h.le b o hz]; simp
def S34 (N : Num) : Spec := fun args h K => ∃ g p n, ∃ size late now : Nat, ∃ A, args = [.pointer (some ⟨p, 0, none⟩), .int .i64 n] ∧ PD g p size late now A ∧ Heap.le g h ∧ 0 < size ∧ size ≤ 1000 ∧ late ≤ 1000 ∧ now ≤ 1000 ∧ A.length ≤ 2000 ∧
 ((n < 0 ∨ 1000 - (now : Int) < n) → K (.tuple #[.slice none 0 0, errV N 1]) h) ∧
 (∀ m : Nat, n = m → now + m ≤ 1000 → ∀ g' h' v, Step g h g' h' → PD g' p size late (now + m) A → Outs (join (rest g h) g') h' v (closE size late now (now + m) A) → K (.tuple #[v, .nilIface]) h')
theorem F34_ok {N : Num} {Γ : Ctx} [GoodC Γ] (H62 : Sat S62 (Γ 62)) (H61 : Sat (S61 N Γ) (Γ 61)) : Sat (S34 N) (SF N Γ F34) := by
 rintro _ h K ⟨g, p, n, size, late, now, A, rfl, ⟨mw, kv, bs, ck, hP⟩, hg, hs1, hs2, hl, hn, hA, hK1, hK2⟩
 obtain ⟨c0, c1, c2, c3, c4⟩ := hP.read hg
 refine i_fun rfl ?_
 simp only [F34, Ze, Nat.reduceSub, Nat.reduceAdd]
 have hw0 : IntKind.i64.wrap (1000 - (now : Int)) = 1000 - (now : Int) := w64 oM oM
 refine sw2 @c2 @hw0 ?_
 refine i_cond (fun cc => ?_) (fun cc => ?_)
 ·refine sw0 ?_
  exact hK1 oM
 obtain ⟨m, rfl⟩ : ∃ m : Nat, n = m := ⟨n.toNat, oM⟩
 have hm : now + m ≤ 1000 := oM
 have hK := hK2 m rfl hm
 clear hK1 hK2
 have hw1 : IntKind.i64.wrap ((now : Int) + m) = ((now + m : Nat) : Int) := by rw [w64 oM oM]; omega
 refine sw2 @c2 @hw1 ?_
 refine i_st (hP.obj.le hg) 2 1 rfl rfl oM (by simp) fun o hob _ => ?_
 have hgp : g p ≠ none := by obtain ⟨_, c, t, q, _⟩ := hP.obj; rw [q]; simp
 have ho1 : objAt (h.set p o) ⟨p, 0, none⟩ [.int .i64 size, .int .i64 late, .int .i64 (now + m : Nat), .int .i64 (clos size late now : Nat), .map (some mw)] := hob h rfl
 have ho1g : objAt (g.set p o) ⟨p, 0, none⟩ [.int .i64 size, .int .i64 late, .int .i64 (now + m : Nat), .int .i64 (clos size late now : Nat), .map (some mw)] := by
  refine objAt_kept ho1 fun o' ho' => ?_
  simp only [Heap.set, if_true] at ho' ⊢; exact ho'
 have hst := Step.set hg hgp o
 have hQ := hP.q.setp ho1g hP.q.no fun _ _ _ _ _ => rfl
 have hc01 : clos size late now ≤ clos size late (now + m) := Nat.div_le_div_right oM
 have hcl := clos_le (size := size) (late := late) (now := now + m)
 obtain ⟨e0, he0⟩ : ∃ c, c = clos size late now := ⟨_, rfl⟩
 obtain ⟨e1, he1⟩ : ∃ c, c = clos size late (now + m) := ⟨_, rfl⟩
 unfold closE at hK
 rw [← he0, ← he1] at hc01 hK
 rw [← he0] at hQ
 rw [← he1] at hcl
 clear hob ho1 ho1g c0 c1 c2 c3 c4
 generalize h.set p o = h1 at *
 generalize g.set p o = g1 at *
 refine sw0 ?_
 refine i_loop (fun x : Nat × Value => [some (.pointer (some ⟨p, 0, none⟩)), some (.int .i64 m), none, none, some x.2, none, none, none, none, none, none, none])
  (fun x H => e0 ≤ x.1 ∧ x.1 ≤ e1 ∧ ∃ g' kv bs ck, Step g h g' H ∧ PDq g' p size late (now + m) x.1 A mw kv bs ck ∧ Outs (join (rest g h) g') H x.2 ((List.range' e0 (x.1 - e0)).map fun k => (k, ofE size A k))) (fun x => e1 - x.1) (e0, .slice none 0 0) (by dsimp only; try simp only [Pf]) ⟨Nat.le_refl _, hc01, g1, kv, bs, ck, hst, hQ, by rw [Nat.sub_self]; exact Outs.nil⟩ ?_
 clear hQ hst
 rintro ⟨e, v⟩ H ⟨hee0, hee1, g2, kv, bs, ck, hSt, hQ, hO⟩
 dsimp only at hee0 hee1 hQ hO ⊢
 have hread := fun H (hl : Heap.le g2 H) => (hQ.obj.le hl).rules.1
 have d0 : H.cell ((⟨p, 0, none⟩ : Addr).add 0) = some (.int .i64 size) := hread H hSt.le 0 (by simp)
 have d1 : H.cell ((⟨p, 0, none⟩ : Addr).add 1) = some (.int .i64 late) := hread H hSt.le 1 (by simp)
 have d2 : H.cell ((⟨p, 0, none⟩ : Addr).add 2) = some (.int .i64 (now + m : Nat)) := hread H hSt.le 2 (by simp)
 have d3 : H.cell ((⟨p, 0, none⟩ : Addr).add 3) = some (.int .i64 (e : Nat)) := hread H hSt.le 3 (by simp)
 have d4 : H.cell ((⟨p, 0, none⟩ : Addr).add 4) = some (.map (some mw)) := hread H hSt.le 4 (by simp)
 have hwa : IntKind.i64.wrap ((e : Int) + 1) = ((e + 1 : Nat) : Int) := by rw [w64 oM oM]; omega
 have hbd : (e + 1) * size ≤ 1001 * 1000 := Nat.mul_le_mul oM hs2
 have hwb : IntKind.i64.wrap (((e + 1 : Nat) : Int) * (size : Int)) = (((e + 1) * size : Nat) : Int) := by rw [← Int.natCast_mul, w64 oM oM]
 have hwc : IntKind.i64.wrap ((((e + 1) * size : Nat) : Int) + late) = (((e + 1) * size + late : Nat) : Int) := by rw [w64 oM oM]; omega
 have hi := clos_iff (late := late) (now := now + m) (k := e) hs1
 refine sw7 @d0 @d1 @d2 @d3 @hwa @hwb @hwc ?_
 refine i_cond (fun c => ?_) (fun c => ?_)
 rotate_left
 ·have h9 : ¬ e < clos size late (now + m) := fun h => c (by have := hi.2 h; omega)
  have : e = e1 := oM
  subst this
  refine sw0 ?_
  rw [he1] at hQ
  exact hK g2 H v hSt ⟨mw, kv, bs, ck, hQ.p⟩ hO
 have he2 : e < e1 := by have := hi.1 oM; omega
 have hlk := (hQ.wm.le hSt.le).lkpE (e : Int)
 obtain ⟨hvs, hvp, hvm⟩ := hQ.vsl e
 generalize hsv : vof kv (e : Int) = sv at *
 have OV := hvs.one
 refine sw3 @d3 @d4 @hlk ?_
 refine i_newO fun b5 H1 hle1 hb5 ho5 => ?_
 refine i_le (le_one hle1) ?_
 refine sw2 OV.1 OV.2 ?_
 have ho5' : objAt H1 ⟨b5, 0, none⟩ [.slice none 0 0] := ho5.le (fr_le _ _)
 refine i_st ho5' 0 1 (by rw [OV.2]; rfl) (by rw [OV.2]; simp [OV.1]) oM (by simp) fun o5 hob5 _ => ?_
 have q5 : objAt (H1.set b5 o5) ⟨b5, 0, none⟩ [sv] := by have := hob5 H1 rfl; simpa [OV.2] using this
 have hle2 : Heap.le H (H1.set b5 o5) := but.le (b := b5) hle1 hb5 fun x hx => Heap.set_ne hx
 generalize H1.set b5 o5 = H2 at *
 clear ho5 ho5' hob5
 have d32 : H2.cell ((⟨p, 0, none⟩ : Addr).add 3) = some (.int .i64 (e : Nat)) := cell_hmono hle2 d3
 have d42 : H2.cell ((⟨p, 0, none⟩ : Addr).add 4) = some (.map (some mw)) := cell_hmono hle2 d4
 refine sw2 @d32 @d42 ?_
 refine i_mdel (ek := encKI) (ev := (id : Value → Value)) hQ.wm (hSt.le.trans hle2) (e : Int) fun g3 H3 kv3 bs3 hm3 hle3 hlk3 hg3 hH3 => ?_
 have hgp2 : g2 p ≠ none := by obtain ⟨_, c, t, q, _⟩ := hQ.obj; rw [q]; simp
 have hgm2 : g2 mw ≠ none := by obtain ⟨es, q, _⟩ := hQ.wm; rw [q]; simp
 have hnn : ∀ b, g2 b ≠ none → H b ≠ none := fun b hb => by
  cases hh : g2 b with
  | none => exact absurd hh hb
  | some o => rw [hSt.le b o hh]; simp
 have hb5m : b5 ≠ mw := by rintro rfl; exact hnn _ hgm2 hb5
 have hb5v : blkOf sv ≠ some b5 := fun e' => hnn _ (hvs.mem e') hb5
 have q53 : objAt H3 ⟨b5, 0, none⟩ [sv] := objAt_kept q5 fun o ho => by rw [hH3 b5 hb5m]; exact ho
 have hvs3 : SlB Si.enc 4 H3 sv (opnN size e A e) := (hvs.le (hSt.le.trans hle2)).same fun b hb => hH3 b (by rintro rfl; exact hvm hb)
 have hQo3 : objAt H3 ⟨p, 0, none⟩ [.int .i64 size, .int .i64 late, .int .i64 (now + m : Nat), .int .i64 e, .map (some mw)] := objAt_kept (hQ.obj.le (hSt.le.trans hle2)) fun o ho => by rw [hH3 p hQ.pm]; exact ho
 obtain ⟨F, hF⟩ : ∃ F : Heap, F = fun b => if blkOf sv = some b then none else H3 b := ⟨_, rfl⟩
 have hFH : Heap.le F H3 := by
  intro b o hb; rw [hF] at hb; dsimp only at hb; split at hb
  ·cases hb
  ·exact hb
 have hRw : Rw F H3 sv (opnN size e A e).toArray := hvs3.own hFH fun b hb => by rw [hF]; simp [hb]
 have q5F : objAt F ⟨b5, 0, none⟩ [sv] := objAt_kept q53 fun o ho => by rw [hF]; simp [hb5v, ho]
 have hopl : (opnN size e A e).length ≤ 2000 := by
  unfold opnN; split
  ·exact Nat.le_trans (List.length_filter_le _ _) hA
  ·simp
 have hB53 : H3.cell ⟨b5, 0, none⟩ = some sv := q53.rules.2.1 (by simp)
 refine sw3 @hB53 OV.1 OV.2 ?_
 refine i_call H61 ⟨F, sv, N.fid 62, _, befS, (opnN size e A e).toArray, rfl, ?_, by simp; omega, befS_swo, hRw, fun H4 d' hR4 hpm hso hk4 => ?_⟩
 ·intro G d i j K' hd hRG hi hj hK'
  have hcG : G.cell ⟨b5, 0, none⟩ = some sv := (q5F.le hRG.1).rules.2.1 (by simp)
  refine i_cal H62 ⟨b5, sv, d.toList, i, j, rfl, hcG, OwnS.sl Si.enc_len hRG, by simp; omega, by simp; omega, ?_⟩
  have e1 : ∀ i, i < d.size → d.toList.getD i default = d[i]! := fun i hi => by
   rw [getElem!_pos d i hi, List.getD_eq_getElem?_getD]; simp [hi]
  rw [e1 i oM, e1 j oM]
  exact hK' G (Heap.le.refl G)
 have hd' : d'.toList = ofE size A e := by
  have := sorted_ofL hpm hso
  rw [this]
  unfold opnN ofE
  rw [if_pos (Nat.le_refl e)]
 have hvs4 : SlB Si.enc 4 H4 sv (ofE size A e) := by rw [← hd']; exact (OwnS.slb hR4).1
 have hQo4 := objAt_kept hQo3 fun o ho => hk4 p o ho hvp
 have d34 : H4.cell ((⟨p, 0, none⟩ : Addr).add 3) = some (.int .i64 (e : Nat)) := hQo4.rules.1 3 (by simp)
 have hB54 : H4.cell ⟨b5, 0, none⟩ = some sv := (objAt_kept q53 fun o ho => hk4 b5 o ho hb5v).rules.2.1 (by simp)
 refine sw4 @d34 @hB54 OV.1 OV.2 ?_
 refine i_bslB encEp 2 encEp_len [(e, sv)] rfl rfl (by simp [maxLen]) fun x1 b1 H5 hle5 hb1 hx1 hS1 => ?_
 have O2 := hS1.one
 refine sw2 O2.1 O2.2 ?_
 obtain ⟨g4, hg4⟩ : ∃ g4 : Heap, g4 = fun b => if blkOf sv = some b then none else g3 b := ⟨_, rfl⟩
 obtain ⟨Z2, hZ2⟩ : ∃ Z2 : Heap, Z2 = fun b => if blkOf sv = some b then H5 b else none := ⟨_, rfl⟩
 have hsvg : ∀ b, blkOf sv = some b → g2 b ≠ none := fun b hb => hvs.mem hb
 have h35 : ∀ b o, H3 b = some o → blkOf sv ≠ some b → H5 b = some o := fun b o hb hne => hle5 b o (hk4 b o hb hne)
 have hH35 : ∀ b o, H b = some o → g2 b = none → H5 b = some o := fun b o hb hn => by
  refine h35 b o ?_ fun e' => hsvg b e' hn
  rw [hH3 b (by rintro rfl; exact hgm2 hn)]; exact hle2 b o hb
 have hg34 : ∀ b, g2 b = none → g4 b = none := fun b hn => by
  rw [hg4]; dsimp only; rw [if_neg fun e' => hsvg b e' hn, hg3 b (by rintro rfl; exact hgm2 hn)]; exact hn
 have hrf : ∀ b o, rest g h b = some o → g2 b = none ∧ H b = some o := fun b o hb => by
  unfold rest at hb
  split at hb
  ·rename_i hgb
   exact ⟨hSt.fresh b (by rw [hb]; simp) hgb, hSt.frame b o hb hgb⟩
  ·cases hb
 have hO5 : Outs (join (rest g h) g4) H5 v ((List.range' e0 (e - e0)).map fun k => (k, ofE size A k)) := by
  refine hO.step (fun b o hb hn => ?_) fun b hb hn => ?_
  ·refine hH35 b o hb ?_
   simp only [join] at hn
   cases hr : rest g h b with
   | some o' => rw [hr] at hn; simp at hn
   | none => rw [hr] at hn; simpa using hn
  ·simp only [join] at hn
   cases hr : rest g h b with
   | some o' => rw [hr] at hn; simp at hn
   | none => rw [hr] at hn; exact join_none hr (hg34 b (by simpa using hn))
 have hg45 : Heap.le g4 H5 := by
  intro b o hb; rw [hg4] at hb; dsimp only at hb; split at hb
  ·cases hb
  ·rename_i hne; exact h35 b o (hle3 b o hb) hne
 have hr5 : Heap.le (rest g h) H5 := fun b o hb => by obtain ⟨q1, q2⟩ := hrf b o hb; exact hH35 b o q2 q1
 have hvg : ∀ b, blkOf v = some b → g2 b = none := fun b hb => by
  obtain ⟨es, Z, hP⟩ := hO
  have hn := (hP.own b hb).1
  simp only [join] at hn
  cases hr : rest g h b with
  | some o' => rw [hr] at hn; simp at hn
  | none => rw [hr] at hn; simpa using hn
 refine i_push (Gf := join (rest g h) g4) (Z2 := Z2) (n := e) (sv := sv) (l := ofE size A e) hO5 (SlB.sl encEp_len (hS1.le (fr_le _ _))) (join_le hr5 hg45) ?_ (fun b hb => ?_) (fun b hb => ?_) ?_ OV.1 (by simp; omega) fun v' H6 hO6 hk6 => ?_
 ·intro b o hb; rw [hZ2] at hb; dsimp only at hb; split at hb
  ·exact hb
  ·cases hb
 ·rw [hZ2] at hb
  dsimp only at hb
  split at hb
  ·rename_i hsb
   refine join_none ?_ (by rw [hg4]; dsimp only; rw [if_pos hsb])
   cases hr : rest g h b with
   | none => rfl
   | some o' => exact absurd (hrf b o' hr).1 (hsvg b hsb)
  ·exact absurd rfl hb
 ·rw [hZ2]; dsimp only; rw [if_neg fun e' => hsvg b e' (hvg b hb)]
 ·exact SlB.sl Si.enc_len ((hvs4.le hle5).same fun b hb => by rw [hZ2]; simp [hb])
 have hvp6 : blkOf v ≠ some p := fun e' => hgp2 (hvg p e')
 have hQo6 := objAt_kept (hQo4.le hle5) fun o ho => hk6 p o ho hvp6
 have d36 : H6.cell ((⟨p, 0, none⟩ : Addr).add 3) = some (.int .i64 (e : Nat)) := hQo6.rules.1 3 (by simp)
 refine sw2 @d36 @hwa ?_
 refine i_st hQo6 3 1 rfl rfl oM (by simp) fun o7 hob7 _ => ?_
 have ho7 : objAt (H6.set p o7) ⟨p, 0, none⟩ [.int .i64 size, .int .i64 late, .int .i64 (now + m : Nat), .int .i64 (e + 1 : Nat), .map (some mw)] := hob7 H6 rfl
 have hg4p : g4 p ≠ none := by rw [hg4]; dsimp only; rw [if_neg hvp, hg3 p hQ.pm]; exact hgp2
 have hg46 : Heap.le g4 H6 := fun b o hb => hk6 b o (hg45 b o hb) fun e' => by rw [hg34 b (hvg b e')] at hb; cases hb
 refine sw0 ?_
 refine k_loop (e + 1, v') dM (by dsimp only; try simp only [Pf]) ⟨dM, dM, g4.set p o7, kv3, bs3, ck, ⟨?_, fun b o hb hn => ?_, fun b hb hn => ?_⟩, ⟨?_, ?_, hQ.pm, fun k hk => ?_, fun n u hu => ?_, fun n n' u u' hu hu' he => ?_⟩, ?_⟩
 ·intro b o hb
  by_cases e' : b = p
  ·subst e'; simp only [Heap.set, if_true] at hb ⊢; exact hb
  ·rw [Heap.set_ne e'] at hb ⊢; exact hg46 b o hb
 ·have h1 := hSt.fresh b (by rw [hb]; simp) hn
  have h2 := hSt.frame b o hb hn
  rw [Heap.set_ne (by rintro rfl; exact hgp2 h1)]
  refine hk6 b o (hH35 b o h2 h1) fun e' => ?_
  obtain ⟨es, Z, hP⟩ := hO
  have h3 := (hP.own b e').1
  have h4 : rest g h b = some o := by unfold rest; rw [if_pos hn]; exact hb
  simp [join, h4] at h3
 ·have h1 := hSt.fresh b hb hn
  rw [Heap.set_ne (by rintro rfl; exact hgp2 h1)]; exact hg34 b h1
 ·refine objAt_kept ho7 fun o' ho' => ?_
  simp only [Heap.set, if_true] at ho' ⊢; exact ho'
 ·obtain ⟨es, q1, q2⟩ := hm3
  refine ⟨es, ?_, q2⟩
  rw [Heap.set_ne (Ne.symm hQ.pm), hg4]; dsimp only; rw [if_neg hvm]; exact q1
 ·rw [hlk3] at hk
  unfold opnN
  by_cases hke : k = e
  ·subst hke; rw [if_neg oM]
  ·rw [if_neg oM] at hk
   have := hQ.no k hk
   unfold opnN at this
   by_cases hc : e + 1 ≤ k
   ·rw [if_pos hc]; rw [if_pos oM] at this; exact this
   ·rw [if_neg hc]
 ·rw [hlk3] at hu
  split at hu
  ·cases hu
  ·rename_i hne
   obtain ⟨k, x, e', q1, q2, q3, q4⟩ := hQ.so n u hu
   refine ⟨k, x, e', q1, q2, q3, ?_⟩
   have hopk : opnN size (e + 1) A k = opnN size e A k := by
    unfold opnN
    by_cases hc : e + 1 ≤ k
    ·rw [if_pos hc, if_pos oM]
    ·rw [if_neg hc, if_neg oM]
   rw [hopk]
   refine q4.same fun b hb => ?_
   have hbx : b = x := by rw [q1] at hb; exact (Option.some.inj hb).symm
   subst hbx
   rw [Heap.set_ne q2, hg4]
   dsimp only
   rw [if_neg fun e'' => hne ?_, hg3 b q3]
   rw [← hsv] at e''
   unfold vof at e''
   cases hl : look kv (e : Int) with
   | none => rw [hl] at e''; simp [blkOf] at e''
   | some w => rw [hl] at e''; exact hQ.inj n e u w hu hl (by rw [q1]; exact e''.symm)
 ·rw [hlk3] at hu hu'
  split at hu
  ·cases hu
  ·split at hu'
   ·cases hu'
   ·exact hQ.inj n n' u u' hu hu' he
 ·dsimp only
  rw [show e + 1 - e0 = (e - e0) + 1 by omega, range'_snoc, List.map_append, show e0 + (e - e0) = e by omega]
  refine hO6.step (fun b o hb hn => ?_) fun b hb hn => ?_
  ·rw [Heap.set_ne]
   ·exact hb
   ·rintro rfl
    simp only [join] at hn
    cases hr : rest g h b with
    | some o' => rw [hr] at hn; simp at hn
    | none => rw [hr] at hn; exact hg4p (by simpa using hn)
  ·simp only [join] at hn
   cases hr : rest g h b with
   | some o' => rw [hr] at hn; simp at hn
   | none =>
    rw [hr] at hn
    have hn' : g4 b = none := by simpa using hn
    exact join_none hr (by rw [Heap.set_ne (by rintro rfl; exact hg4p hn')]; exact hn')
end Go.Cw
namespace Go.Cw
open Go Go.Sort Go.Proofs
def EpsR (h : Heap) (v : Value) (L : List (Nat × List Si)) : Prop := ∃ es : List (Nat × Value), Sl encEp h v es ∧ es.length = L.length ∧ ∀ i, i < L.length → (es.getD i default).1 = (L.getD i default).1 ∧ Sl Si.enc h (es.getD i default).2 (L.getD i default).2
theorem Outs.epsR {Gf H : Heap} {v : Value} {L : List (Nat × List Si)} (a : Outs Gf H v L) : EpsR H v L := by
 obtain ⟨es, Z, h⟩ := a
 exact ⟨es, SlB.sl encEp_len h.sl, h.len, fun i hi => ⟨(h.el i hi).1, (h.el i hi).2.1.le h.le⟩⟩
theorem EpsR.nil {h : Heap} : EpsR h (.slice none 0 0) [] := ⟨[], Sl.nil, rfl, fun i hi => by simp at hi⟩
end Go.Cw
namespace Go.Cw
open Go
structure K2 (h H gt gm F : Heap) : Prop where
 hF : Heap.le h F
 lF : Heap.le F H
 lt : Heap.le gt H
 lm : Heap.le gm H
 dtm : disj gt gm
 dtF : disj gt F
 dmF : disj gm F
theorem K2.le {h H gt gm F : Heap} (k : K2 h H gt gm F) : Heap.le h H := k.hF.trans k.lF
theorem K2.more {h H gt gm F H' : Heap} (k : K2 h H gt gm F) (hl : Heap.le H H') : K2 h H' gt gm F :=
 ⟨k.hF, k.lF.trans hl, k.lt.trans hl, k.lm.trans hl, k.dtm, k.dtF, k.dmF⟩
end Go.Cw
namespace Go.Cw
open Go Go.Sort Go.Proofs
theorem disj_frE {g h h' : Heap} (hg : Heap.le g h) : disj g (fr h h') := by
 intro b hb
 cases e : g b with
 | none => exact absurd e hb
 | some o => exact fr_none (hg b o e)
structure Ac where
 kind : List UInt8
 n : Int
 s : List UInt8
 x : Si
 deriving Inhabited
def Ac.enc (a : Ac) : List Value := [.string (str a.kind), .int .i64 a.n, .string (str a.s), .int .i64 a.x.place, .int .i64 a.x.strength, .int .i64 a.x.time, .string (str a.x.tag)]
theorem Ac.enc_len (a : Ac) : a.enc.length = 7 := rfl
theorem rest_disj {g h F : Heap} (hF : Heap.le F h) (hd : disj F g) : Heap.le F (rest g h) := by
 intro b o hb
 unfold rest
 rw [if_pos (hd b (by rw [hb]; simp))]; exact hF b o hb
end Go.Cw
namespace Go.Cw
open Go Go.Sort Go.Proofs
theorem flat4 : ∀ (l : List Si) (t : Nat), t < l.length * 4 → (l.flatMap Si.enc)[t]? = some ((Si.enc (l.getD (t / 4) default)).getD (t % 4) undef) := by
 intro l
 induction l with
 | nil => intro t h; simp at h
 | cons x l ih =>
  intro t h
  rw [List.flatMap_cons]
  by_cases ht : t < 4
  ·rw [List.getElem?_append_left (by rw [Si.enc_len]; exact ht)]
   have h1 : t / 4 = 0 := oM
   have h2 : t % 4 = t := oM
   rw [h1, h2, List.getD_cons_zero, List.getElem?_eq_getElem (by rw [Si.enc_len]; exact ht), List.getD_eq_getElem?_getD, List.getElem?_eq_getElem (by rw [Si.enc_len]; exact ht)]
   rfl
  ·rw [List.getElem?_append_right (by rw [Si.enc_len]; omega), Si.enc_len, ih (t - 4) (by simp only [List.length_cons] at h; omega)]
   have h1 : t / 4 = (t - 4) / 4 + 1 := oM
   have h2 : t % 4 = (t - 4) % 4 := oM
   rw [h1, h2, List.getD_cons_succ]
theorem getBang (l : List Value) (i : Nat) (h : i < l.length) : l[i]! = l.getD i undef := by
 rw [List.getElem!_eq_getElem?_getD, List.getD_eq_getElem?_getD, List.getElem?_eq_getElem h]; rfl
theorem flatK_at (d : Array Si) (t : Nat) (h : t < d.size * 4) : (flatK Si.enc 4 d)[t]! = (Si.enc (d.toList.getD (t / 4) default)).getD (t % 4) undef := by
 rw [get_flatK _ _ _ _ h]
 have h1 : t / 4 < d.size := oM
 have h2 : d[t / 4]! = d.toList.getD (t / 4) default := by
  rw [getElem!_pos d _ h1, List.getD_eq_getElem?_getD]
  simp [h1]
 rw [h2]
 have h3 : t % 4 < (Si.enc (d.toList.getD (t / 4) default)).length := by rw [Si.enc_len]; omega
 exact getBang _ _ h3
theorem Rw.blk {F h : Heap} {v : Value} {d : Array Si} (a : Rw F h v d) (hn : d.size ≠ 0) : ∃ b c t cap, v = .slice (some ⟨b, 0, none⟩) d.size cap ∧ h b = some (.cells c t (0, 0)) ∧ d.size * 4 ≤ c.size ∧ (∀ i, i < d.size * 4 → c[i]? = some ((flatK Si.enc 4 d)[i]!)) ∧ c.size = cap * 4 ∧ cap ≤ maxLen ∧ d.size ≤ cap ∧ F b = none := by
 obtain ⟨a0, ad, cap, rfl, h1, h2, h3⟩ := a
 simp only [Array.length_toList] at h1
 rcases h3 with ⟨_, e, _⟩ | ⟨b, c, t, rfl, hF, hb, hcs, hc⟩
 ·exact absurd (by simpa using e) hn
 ·refine ⟨b, c, t, cap, by simp, hb, oM, fun i hi => ?_, hcs, h2, h1, hF⟩
  have hl : (d.toList.flatMap Si.enc).length = d.size * 4 := by rw [flat_len Si.enc_len]; simp
  rw [hc i (by rw [hl]; exact hi), flat4 _ _ (by simpa using hi), flatK_at _ _ hi]
theorem Rw.holds {h : Heap} {w : World} {d : Array Si} {b : Nat} {c : Array Value} {t : TypeId} (hs : h.sub w) (hb : h b = some (.cells c t (0, 0))) (hc : ∀ i, i < d.size * 4 → c[i]? = some ((flatK Si.enc 4 d)[i]!)) : HoldsK Si.enc 4 w b 0 d := by
 intro j hj
 rw [size_flatK] at hj
 have hwb := hs b _ hb
 constructor
 ·simp only [World.cell?, hwb, Nat.zero_add]
  rw [hc j hj]; rfl
 ·simp [World.frozen?, hwb]
theorem Rw.lay {F h : Heap} {w : World} {v : Value} {d d' : Array Si} {b cap : Nat} {c : Array Value} {t : TypeId} (a : Rw F h v d) (hv : v = .slice (some ⟨b, 0, none⟩) d.size cap) (hs : h.sub w) (hb : h b = some (.cells c t (0, 0))) (hcs : c.size = cap * 4) (hcap : cap ≤ maxLen) (hdc : d.size ≤ cap) (hsz : d'.size = d.size) (hF : F b = none) :
  ∃ h', Rw F h' v d' ∧ kv v h h' ∧ WStep h h' w (putRowK Si.enc 4 w b 0 d') := by
 have hwb := hs b _ hb
 have hlt := (Array.getElem?_eq_some_iff.1 hwb).1
 refine ⟨h.set b (.cells (putCells id 0 (flatK Si.enc 4 d') c) t (0, 0)), ⟨?_, some ⟨b, 0, none⟩, cap, by rw [hv]; simp [hsz], by simp [hsz]; exact hdc, hcap, .inr ⟨b, putCells id 0 (flatK Si.enc 4 d') c, t, rfl, hF, by simp [Heap.set], by simp only [putCells, Array.size_mapIdx]; exact hcs, fun i hi => ?_⟩⟩, fun x o hx hne => ?_, ⟨fun x o hx => ?_, ?_, rfl, rfl, rfl, fun x hx hn => ⟨?_, ?_⟩⟩⟩
 ·intro x o hx
  have : x ≠ b := by rintro rfl; rw [hF] at hx; cases hx
  rw [Heap.set_ne this]; exact a.1 x o hx
 ·have hl : (d'.toList.flatMap Si.enc).length = d'.size * 4 := by rw [flat_len Si.enc_len]; simp
  rw [hl] at hi
  rw [flat4 _ _ (by simpa using hi)]
  have hic : i < c.size := oM
  simp only [putCells, Array.getElem?_mapIdx, Array.getElem?_eq_getElem hic, Option.map_some]
  rw [if_pos ⟨oM, by rw [size_flatK]; omega⟩, Nat.sub_zero, flatK_at _ _ hi]; rfl
 ·have : x ≠ b := by rintro rfl; rw [hv] at hne; exact hne rfl
  rw [Heap.set_ne this]; exact hx
 ·by_cases e : x = b
  ·subst e
   simp only [Heap.set, if_true] at hx
   cases hx
   simp [putRowK, Go.Sort.putRow, mapBlock, Array.getElem?_modify, hwb, onCells]
  ·rw [Heap.set_ne e] at hx
   have hwx := hs x o hx
   simp [putRowK, Go.Sort.putRow, mapBlock, Array.getElem?_modify, hwx, Ne.symm e]
 ·simp [putRowK]
 ·have : x ≠ b := by rintro rfl; rw [hn] at hb; cases hb
  rw [Heap.set_ne this]; exact hn
 ·have e : x ≠ b := by rintro rfl; rw [hn] at hb; cases hb
  simp [putRowK, Go.Sort.putRow, mapBlock, Array.getElem?_modify, Ne.symm e]
theorem FC.fb {P : Program} {f : FuncId} {args : List Value} {h : Heap} {K : Value → Heap → Prop} {w : World} (hc : FC P f args h K) (hs : h.sub w) {fn : Func} (hn : P.funcs[f]? = some fn) (hb : (fn.body.isNone || fn.name == "runtime.NumGoroutine") = false) :
  Calls P f args.toArray w fun e w' => ∃ v h', e = .returned v ∧ K v h' ∧ WStep h h' w w' := by
 simp only [Bool.or_eq_false_iff] at hb
 rcases hc with hc | hc
 ·exact hc.2 w hs
 ·exfalso
  obtain ⟨v, h', w', h1, _⟩ := hc w hs
  have hn' : fn.name ≠ "runtime.NumGoroutine" := by simpa using hb.2
  obtain ⟨c, hc⟩ : ∃ c, fn.body = some c := by
   cases hh : fn.body with
   | none => rw [hh] at hb; simp at hb
   | some c => exact ⟨c, rfl⟩
  simp [callFunc, program, Sem.run, hn, hn', hc] at h1
theorem WStep.growW {h : Heap} {w : World} (hs : h.sub w) (os : Array Obj) : WStep h h w (grow w os) := by
 refine ⟨fun x o hx => ?_, by rw [size_grow]; omega, rfl, rfl, rfl, fun x hx hn => ⟨hn, heap_grow_old _ _ hx⟩⟩
 have := hs x o hx
 rw [heap_grow_old _ _ (Array.getElem?_eq_some_iff.1 this).1]; exact this
theorem swapperK_two (n : Nat) (ie : TypeInfo) (ke : Nat) (h : 2 ≤ n) : Go.Lib.swapperK n ie ke = Go.Lib.swapperK 2 ie ke := by
 unfold Go.Lib.swapperK
 have h0 : (n == 0) = false := by simp; omega
 have h1 : (n == 1) = false := by simp; omega
 rw [h0, h1]; rfl
theorem c61_of {P : Program} {N : Num} {ρ : Go.Shelf.Ren} (L : LaysGg.n6 P ρ) (e : TypeId) (i ie : TypeInfo) (hi : P.info? (N.tid 64) = some i) (hd : i.desc = .slice e) (hpk : P.packed (N.tid 64) = false) (hie : P.info? e = some ie) (ke : Nat) (hke : ∀ w, (Extern.Rtype.kind e).run P w = .ok ke w)
  (h77 : N.fid 77 = ρ.f 14) (c77 : ∀ n, Sat (S77 N (GF P N) n) (GF P N 77)) {fn : Func} (hfn : P.funcs[ρ.f 14]? = some fn) (hbody : (fn.body.isNone || fn.name == "runtime.NumGoroutine") = false)
  (f1 f2 k9 : Nat) (hf1 : P.funcs.findIdx? (·.name == "internal/reflectlite" ++ ".Swapper$" ++ toString (Go.Lib.swapperK 0 ie ke)) = some f1) (hf2 : P.funcs.findIdx? (·.name == "internal/reflectlite" ++ ".Swapper$" ++ toString (Go.Lib.swapperK 1 ie ke)) = some f2)
  (hf9 : P.funcs.findIdx? (·.name == "internal/reflectlite" ++ ".Swapper$" ++ toString (Go.Lib.swapperK 2 ie ke)) = some (N.fid k9))
  (hs1 : ie.size = 4) (hagg : ∀ w, (isAgg e).run P w = .ok true w) (gS : Bool) (hx : ∀ args W, (callFunc (N.fid k9) args).run P W = ((Extern.ReflectliteSwapper.swap gS args).run P W).andThen fun v w' => .ok (.value v) w') :
  ∀ args h K, S61 N (GF P N) args h K → ∀ w, h.sub w → Calls P (ρ.f 6) args.toArray w fun e w' => ∃ v h', e = .returned v ∧ K v h' ∧ WStep h h' w w' := by
 rintro _ h K ⟨F, v, fl, cl, lt, d, rfl, hless, hsz, hO, hR, hK⟩ w hs
 by_cases h2 : 2 ≤ d.size
 rotate_left
 ·obtain ⟨_, a, cap, rfl, _⟩ := id hR
  have hn1 : d.toList.length ≤ 1 := by simp; omega
  obtain ⟨f, hf⟩ : ∃ f, P.funcs.findIdx? (·.name == "internal/reflectlite" ++ ".Swapper$" ++ toString (Go.Lib.swapperK d.toList.length ie ke)) = some f := by
   rcases Nat.le_one_iff_eq_zero_or_eq_one.1 hn1 with e | e <;> rw [e]
   ·exact ⟨f1, hf1⟩
   ·exact ⟨f2, hf2⟩
  refine (Any.sort_Slice_tiny L (N.tid 64) e i ie hi hd hpk hie ke hke a d.toList.length cap hn1 f hf (.func fl) #[] cl w).mono ?_
  rintro e' w' ⟨rfl, os, rfl⟩
  exact ⟨_, h, rfl, hK h d hR (permIn_refl d 0 d.size) (fun i j _ h1 h2' => by omega) kv.refl, WStep.growW hs os⟩
 obtain ⟨b, c, t, cap, hv, hb, hcs1, hc, hcs, hcap, hdc, hF⟩ := hR.blk oM
 have hf9' := hf9
 rw [← swapperK_two d.size ie ke h2] at hf9'
 rw [hv]
 have hB : sliceBound P e ie ke (some ⟨b, 0, none⟩) d.size cap = #[.slice (some ⟨b, 0, none⟩) d.size cap, typeHandle P e] := by
  unfold sliceBound; rw [if_neg (swapperK_gt _ _ _ h2)]
 have hW : sliceWorld P ρ (N.tid 64) (some ⟨b, 0, none⟩) d.size cap w = grow w #[.cells #[.slice (some ⟨b, 0, none⟩) d.size cap] (N.tid 64), .cells #[.pointer (some ⟨P.globals.size, N.tid 64, none⟩), .pointer (some ⟨w.heap.size, 0, none⟩), .int .u64 151] (ρ.t 35)] := by
  unfold sliceWorld; rw [alloc_eq_grow, alloc_eq_grow, grow_grow]; rfl
 have hp := Any.sort_Slice_of_pdq L (N.tid 64) e i ie hi hd hpk hie ke hke (some ⟨b, 0, none⟩) d.size cap oM (N.fid k9) hf9' (.func fl) #[] cl w (fun w' => ∃ h', K (.tuple #[]) h' ∧ WStep h h' w w') ?_
 ·refine hp.mono ?_
  rintro e' w' ⟨rfl, h', h1, h2⟩
  exact ⟨_, h', rfl, h1, h2⟩
 rw [hB]
 generalize hos : sliceWorld P ρ (N.tid 64) (some ⟨b, 0, none⟩) d.size cap w = W at *
 have hstep : WStep h h w W := by rw [hW]; exact WStep.growW hs _
 have hSo : So N (GF P N) F v fl (N.fid k9) cl #[.slice (some ⟨b, 0, none⟩) d.size cap, typeHandle P e] lt d.size := by
  refine ⟨hless, fun H dk i' j' K' hdk hRk hi' hj' hK' => ?_, hsz⟩
  refine ⟨k9, rfl, rfl, .inr fun W2 hs2 => ?_⟩
  obtain ⟨b', c', t', cap', hv', hb', hcs1', hc', hcs', hcap', hdc', hF'⟩ := hRk.blk oM
  rw [hv] at hv'
  simp only [Value.slice.injEq, Option.some.injEq, Addr.mk.injEq, and_true] at hv'
  obtain ⟨rfl, _, rfl⟩ := hv'
  have hH := Rw.holds (d := dk) hs2 hb' hc'
  have hsw := swapSwapsK_of_literal gS (N.fid k9) hx e ie hie Si.enc 4 Si.enc_len hs1 hagg (fun x v hv => by simp [Si.enc] at hv; rcases hv with rfl | rfl | rfl | rfl <;> rfl) b 0 d.size cap W2 dk hH hdk i' j' hi' hj'
  have hswp := swap_worldK Si.enc 4 Si.enc_len W2 0 0 b 0 dk i' j' oM oM
  have hself := putRowK_self Si.enc 4 W2 b 0 dk hH
  obtain ⟨H', hR', hk', hst⟩ := Rw.lay (d' := swp dk i' j') hRk (by rw [hv, hdk]) hs2 hb' hcs' hcap' hdc' (size_swp _ _ _) hF'
  refine ⟨.tuple #[], H', putRowK Si.enc 4 W2 b 0 (swp dk i' j'), ?_, hK' H' hR' hk', hst⟩
  have e0 : (putRowK Si.enc 4 (Go.Sort.ahead W2 0) b 0 dk).drewN 0 = W2 := by rw [ahead_zero, hself]; rfl
  rw [e0] at hswp
  rw [hswp] at hsw
  exact hsw
 have hlim : Go.Lib.bitLen d.size ≤ 1000 := Nat.le_trans (Go.Lib.bitLen_le d.size 62 oM oM) oM
 have hfc := c77 d.size [.agg #[.func (.func fl) #[] cl, .func (.func (N.fid k9)) #[] #[.slice (some ⟨b, 0, none⟩) d.size cap, typeHandle P e]], .int .i64 (0 : Nat), .int .i64 d.size, .int .i64 (Go.Lib.bitLen d.size)] h (fun v' h' => v' = .tuple #[] ∧ K (.tuple #[]) h')
  ⟨F, v, fl, N.fid k9, cl, _, lt, d, 0, d.size, Go.Lib.bitLen d.size, rfl, hSo, hO, hR, Nat.zero_le _, Nat.le_refl _, oM, hlim, Or.inl rfl, fun h' hR' hkv => ⟨rfl, ?_⟩⟩
 ·have hcl := FC.fb (w := W) hfc hstep.sub (by rw [h77]; exact hfn) hbody
  rw [h77] at hcl
  refine hcl.mono ?_
  rintro e' w' ⟨v', h', rfl, ⟨rfl, hk⟩, hst⟩
  exact ⟨rfl, h', hk, hstep.trans hst⟩
 ·obtain ⟨p1, p2⟩ := pdq_sorts lt hO d 0 d.size (Go.Lib.bitLen d.size) true true (Nat.zero_le _) (Nat.le_refl _) (Or.inl rfl)
  exact hK h' _ hR' p1 p2 hkv
end Go.Cw
namespace Go.Cw
open Go
def acTy : Ty := .cons .str (.cons .int (.cons .str (.cons rdTy .nil)))
theorem mat_ac {w : World} (cs : List Value) (h : Mat w acTy cs) : ∃ x : Ac, True ∧ cs = x.enc := by
 obtain ⟨k, _, rfl, _, h1⟩ := mat_str h
 obtain ⟨n, _, rfl, h2⟩ := mat_int h1
 obtain ⟨s, _, rfl, _, h3⟩ := mat_str h2
 obtain ⟨x, y, rfl, h4, h5⟩ := h3
 obtain ⟨si, _, rfl⟩ := mat_si x h4
 cases h5
 exact ⟨⟨k, n, s, si⟩, trivial, by simp [Ac.enc, Si.enc]⟩
theorem mat_acs {w : World} {v : Value} (h : Mat w (.sl acTy) [v]) : ∃ L : List Ac, Sl Ac.enc (full w) v L := by
 obtain ⟨L, h1, _⟩ := mat_sl mat_ac h
 exact ⟨L, h1⟩
theorem c76_of {P : Program} {ρ : Go.Shelf.Ren} (Ly : Go.Proofs.Lays.n125 P ρ) : ∀ args h K, S76 args h K → ∀ w, h.sub w → Calls P (ρ.f 125) args.toArray w fun e w' => ∃ v h', e = .returned v ∧ K v h' ∧ WStep h h' w w' := by
 rintro _ h K ⟨n, rfl, hn, hK⟩ w hs
 refine (Go.Proofs.Any.bits_Len Ly n w oM oM).mono ?_
 rintro e w' ⟨rfl, rfl⟩
 refine ⟨_, h, rfl, ?_, WStep.refl hs⟩
 rw [Int.toNat_natCast, Go.Proofs.bitLen_eq n oM]
 exact hK
def Rd.bytes (r : Rd) : List UInt8 := [b8 r.ant, b8 r.str, b8 r.age] ++ r.tag
def Fr.body (f : Fr) : List UInt8 := if f.ty = 3 then [b8 f.warm] else f.reads.flatMap Rd.bytes
def Fr.front (f : Fr) : List UInt8 := [165, b8 f.body.length, b8 f.ty] ++ f.body
def bsumN (l : List UInt8) : Nat := (l.map (·.toNat)).sum
def Fr.bytes (f : Fr) : List UInt8 := f.front ++ [b8 (255 - (bsumN f.front : Int) % 256)]
theorem bytes_len : ∀ (l : List Rd), (∀ r ∈ l, r.tag.length = 8) → (l.flatMap Rd.bytes).length = l.length * 11 := by
 intro l
 induction l with
 | nil => intro _; rfl
 | cons r l ih =>
  intro h
  have h1 := h r (by simp)
  rw [List.flatMap_cons, List.length_append, ih fun r hr => h r (by simp [hr])]
  simp only [Rd.bytes, List.length_append, List.length_cons, List.length_nil, h1]
  omega
theorem bsumN_take {l : List UInt8} {i : Nat} (hi : i < l.length) : bsumN (l.take (i + 1)) = bsumN (l.take i) + (l.getD i 0).toNat := by
 unfold bsumN
 rw [take_succ_d 0 hi, List.map_append, List.sum_append]; simp only [List.map_cons, List.map_nil, List.sum_cons, List.sum_nil, Nat.add_zero]
theorem bsumN_le : ∀ (l : List UInt8), bsumN l ≤ l.length * 255 := by
 intro l
 induction l with
 | nil => simp [bsumN]
 | cons x l ih =>
  have : x.toNat < 256 := x.toNat_lt
  simp only [bsumN, List.map_cons, List.sum_cons, List.length_cons] at ih ⊢
  omega
theorem bsum_eq (l : List UInt8) : bsum l = bsumN l % 256 := by
 have : ∀ (l : List UInt8) (a : Nat), l.foldl (fun a b => (a + b.toNat) % 256) (a % 256) = (a + bsumN l) % 256 := by
  intro l
  induction l with
  | nil => intro a; simp [bsumN]
  | cons x l ih =>
   intro a
   simp only [List.foldl_cons]
   have := ih (a % 256 + x.toNat)
   rw [this]
   simp only [bsumN, List.map_cons, List.sum_cons]
   omega
 have := this l 0
 simpa [bsum] using this
theorem Fr.fine {f : Fr} (hf : f.fault = 0) : 1 ≤ f.ty ∧ f.ty ≤ 3 ∧ f.reads.length ≤ 4 ∧ (∀ r ∈ f.reads, ¬ r.bad) ∧ 0 ≤ f.warm ∧ f.warm ≤ 255 ∧ (f.ty ≠ 1 → f.reads = []) ∧ (f.ty ≠ 3 → f.warm = 0) := by
 unfold Fr.fault at hf
 repeat' split at hf
 all_goals first | (simp at hf; done) | skip
 rename_i h1 h2 h3 h4 h5
 refine ⟨oM, oM, oM, fun r hr hb => h5 ⟨r, hr, hb⟩, oM, oM, fun h => ?_, oM⟩
 exact List.eq_nil_of_length_eq_zero oM
theorem Fr.body_len {f : Fr} (hf : f.fault = 0) : f.body.length ≤ 44 := by
 obtain ⟨h1, h2, h3, h4, h5, h6, h7⟩ := Fr.fine hf
 unfold Fr.body
 split
 ·simp
 ·rw [bytes_len _ fun r hr => by have := h4 r hr; simp only [Rd.bad] at this; omega]; omega
def S22 : Spec := fun args h K => ∃ v f, args = [v] ∧ FrV h v f ∧ f.fault = 0 ∧ ∀ h', Heap.le h h' → K (.string (str f.bytes)) h'
theorem F22_ok {N : Num} {Γ : Ctx} [GoodC Γ] : Sat S22 (SF N Γ F22) := by
 rintro _ h K ⟨_, f, rfl, ⟨s, rfl, hs⟩, hf, hK⟩
 obtain ⟨h1, h2, h3, h4, h5, h6, h7, h8⟩ := Fr.fine hf
 have hbl := Fr.body_len hf
 have htag : ∀ r ∈ f.reads, r.tag.length = 8 := fun r hr => by have := h4 r hr; simp only [Rd.bad] at this; omega
 refine i_fun rfl ?_
 simp only [F22, Ze, Nat.reduceSub, Nat.reduceAdd]
 refine sw0 ?_
 refine i_loop (fun i : Nat => [none, some (.agg #[.int .i64 f.ty, s, .int .i64 f.warm]), none, some (.string (str ((f.reads.take i).flatMap Rd.bytes))), some (.int .i64 i), none, none, none, none, none, none, none, none, none, none, none, none, none, none])
  (fun i h' => i ≤ f.reads.length ∧ Heap.le h h') (fun i => f.reads.length - i) 0 ?_ ⟨oM, Heap.le.refl _⟩ ?_
 ·try simp only [Pf]; exact ⟨rfl, rfl⟩
 rintro i h' ⟨hi, hle⟩
 have R := (hs.le hle).rules 4 (fun _ => rfl) default
 refine sw1 @R ?_
 refine i_cond (fun c5 => ?_) (fun c5 => ?_)
 ·refine sw2 @R @Rd.enc.eq_1 ?_
  refine i_bslS encB 1 encB_len [b8 (f.reads.getD i default).ant, b8 (f.reads.getD i default).str, b8 (f.reads.getD i default).age] (by simp [encB, conv8]) rfl (by simp [maxLen]) fun v' h'' hle' ho => ?_
  have ht := htag _ (getD_mem default (l := f.reads) (i := i) oM)
  have hlen := bytes_len (f.reads.take i) fun r hr => htag r (List.mem_of_mem_take hr)
  have hlt := List.length_take_le i f.reads
  refine sw2 ((ho.sl encB_len).b2s) @hlen ?_
  refine k_loop (i + 1) oM ?_ ⟨oM, hle.trans hle'⟩
  try simp only [Pf]
  rw [take_succ_d default (show i < f.reads.length by omega), List.flatMap_append]
  simp [Rd.bytes]
 ·refine sw0 ?_
  have hi' : i = f.reads.length := oM
  subst hi'
  rw [List.take_length]
  refine i_meet_cond (fun env h' => Heap.le h h' ∧ env = [none, some (.agg #[.int .i64 f.ty, s, .int .i64 f.warm]), none, some (.string (str f.body)), none, none, none, none, none, none, none, none, none, none, none, none, none, none, none]) ?_ ?_
  ·rintro env h' ⟨hle, rfl⟩
   refine sw0 ?_
   refine i_bslS encB 1 encB_len [165, b8 f.body.length, b8 f.ty] (by simp [encB, conv8]) rfl (by simp [maxLen]) fun v' h'' hle' ho => ?_
   refine sw1 ((ho.sl encB_len).b2s) ?_
   have hfl : f.front.length ≤ 47 := by simp only [Fr.front, List.length_append, List.length_cons, List.length_nil]; omega
   show SW N Γ _ _ [_, _, _, _, _, _, some (.string (str f.front)), _, _, _, _, _, _, _, _, _, _, _, _] _
   refine i_loop (fun i : Nat => [none, none, none, none, none, none, some (.string (str f.front)), some (.int .i64 (bsumN (f.front.take i))), some (.int .i64 i), none, none, none, none, none, none, none, none, none, none])
    (fun i h' => i ≤ f.front.length ∧ h' = h'') (fun i => f.front.length - i) 0 ?_ ⟨oM, rfl⟩ ?_
   ·try simp only [Pf]; exact ⟨rfl, rfl⟩
   rintro i _ ⟨hi, rfl⟩
   refine sw0 ?_
   refine i_cond (fun c5 => ?_) (fun c5 => ?_)
   ·have hb : (f.front.getD i 0).toNat < 256 := (f.front.getD i 0).toNat_lt
    have hs1 := bsumN_le (f.front.take i)
    have hs2 := List.length_take_le i f.front
    refine sw0 ?_
    refine k_loop (i + 1) oM ?_ ⟨oM, rfl⟩
    try simp only [Pf]
    rw [bsumN_take oM]
   ·have hi' : i = f.front.length := oM
    subst hi'
    rw [List.take_length]
    have hs1 := bsumN_le f.front
    have e1 : IntKind.i64.wrap (255 - Int.tmod (bsumN f.front) 256) = 255 - (bsumN f.front : Int) % 256 := by
     rw [Int.tmod_eq_emod_of_nonneg oM, w64 oM oM]
    refine sw1 @e1 ?_
    refine i_bslS encB 1 encB_len [b8 (255 - (bsumN f.front : Int) % 256)] (by simp [encB, conv8]) rfl (by simp [maxLen]) fun v' h3 hle3 ho => ?_
    refine sw1 ((ho.sl encB_len).b2s) ?_
    exact hK _ (hle.trans (hle'.trans hle3))
  ·refine i_cond (fun c6 => ?_) (fun c6 => ?_)
   ·refine sw0 ?_
    refine i_bslS encB 1 encB_len [b8 f.warm] (by simp [encB, conv8]) rfl (by simp [maxLen]) fun v' h'' hle' ho => ?_
    refine sw1 ((ho.sl encB_len).b2s) ?_
    refine k_meet _ ?_ ⟨hle.trans hle', rfl⟩
    try simp only [Pf]; simp [Fr.body, c6]
   ·refine sw0 ?_
    refine k_meet _ ?_ ⟨hle, rfl⟩
    try simp only [Pf]; simp [Fr.body, c6]
theorem FrV.le {h h' : Heap} (hl : Heap.le h h') {v : Value} {f : Fr} (hv : FrV h v f) : FrV h' v f := by
 obtain ⟨s, h1, h2⟩ := hv
 exact ⟨s, h1, h2.le hl⟩
theorem Rd.eqv (h : Heap) : (∀ a b : Rd, o2V h (.eqv (.flat [.int, .int, .int, .str]) true) (.v (.agg a.enc.toArray)) (.v (.agg b.enc.toArray)) = some (.v (.bool (decide (a ≠ b))))) ∧
  (∀ a b : Rd, o2V h (.eqv (.flat [.int, .int, .int, .str]) false) (.v (.agg a.enc.toArray)) (.v (.agg b.enc.toArray)) = some (.v (.bool (decide (a = b))))) := by
 have key : ∀ a b : Rd, cellsEq [.int, .int, .int, .str] a.enc b.enc = some (decide (a = b)) := by
  rintro ⟨a1, a2, a3, a4⟩ ⟨b1, b2, b3, b4⟩
  simp only [Rd.enc, cellsEq_int, cellsEq_str, cellsEq_nil, Rd.mk.injEq]
  by_cases e1 : a1 = b1 <;> by_cases e2 : a2 = b2 <;> by_cases e3 : a3 = b3 <;> by_cases e4 : a4 = b4 <;> simp [e1, e2, e3, e4]
 constructor <;> (intro a b; simp [o2V, eqV, key])
structure FrR where
 ty : Int
 sv : Value
 warm : Int
 deriving Inhabited
def FrR.enc (r : FrR) : List Value := [.int .i64 r.ty, r.sv, .int .i64 r.warm]
def FrR.ok (h : Heap) (r : FrR) (f : Fr) : Prop := r.ty = f.ty ∧ r.warm = f.warm ∧ Sl Rd.enc h r.sv f.reads
def FrsV (h : Heap) (v : Value) (fs : List Fr) : Prop := ∃ rs : List FrR, Sl FrR.enc h v rs ∧ rs.length = fs.length ∧ ∀ i, i < fs.length → FrR.ok h (rs.getD i default) (fs.getD i default)
theorem FrsV.le {h h' : Heap} (hl : Heap.le h h') {v : Value} {f : List Fr} (hv : FrsV h v f) : FrsV h' v f := by
 obtain ⟨rs, h1, h2, h3⟩ := hv
 exact ⟨rs, h1.le hl, h2, fun i hi => let ⟨a, b, c⟩ := h3 i hi; ⟨a, b, c.le hl⟩⟩
def rdOf (b : List UInt8) : Rd := ⟨(b.getD 0 0).toNat, (b.getD 1 0).toNat, (b.getD 2 0).toNat, (b.drop 3).take 8⟩
def rds : Nat → List UInt8 → List Rd
 | 0, _ => []
 | n + 1, b => rdOf b :: rds n (b.drop 11)
def Fr.zero : Fr := ⟨0, [], 0⟩
def decode (ty : Nat) (b : List UInt8) : Fr := ⟨ty, if ty = 1 then rds (b.length / 11) b else [], if ty = 3 ∧ b.length = 1 then (b.getD 0 0).toNat else 0⟩
def fAt (s : List UInt8) : Option (Fr × Nat) :=
 if s.length < 4 ∨ s.getD 0 0 ≠ 165 ∨ 44 < (s.getD 1 0).toNat ∨ s.length < 4 + (s.getD 1 0).toNat then none
 else
  let n := (s.getD 1 0).toNat
  let f := decode (s.getD 2 0).toNat ((s.drop 3).take n)
  if f.fault ≠ 0 ∨ f.bytes ≠ s.take (4 + n) then none else some (f, 4 + n)
def begins (s : List UInt8) : Prop := if s.length = 1 then s.getD 0 0 = 165 else s.getD 0 0 = 165 ∧ (s.getD 1 0).toNat ≤ 44 ∧ s.length < 4 + (s.getD 1 0).toNat
instance (s : List UInt8) : Decidable (begins s) := by unfold begins; infer_instance
def bodyOf (kind : Nat) (b : List UInt8) : Option Fr :=
 if kind = 1 ∧ b.length % 11 = 0 ∧ b.length ≤ 44 then
  if ∀ r ∈ rds (b.length / 11) b, r.ant < 4 then some ⟨1, rds (b.length / 11) b, 0⟩ else none
 else if kind = 2 ∧ b = [] then some ⟨2, [], 0⟩
 else if kind = 3 ∧ b.length = 1 then some ⟨3, [], (b.getD 0 0).toNat⟩
 else none
def first (s : List UInt8) : Option (Fr × Nat) × Bool :=
 if s.getD 0 0 ≠ 165 then (none, false)
 else if s.length < 2 then (none, true)
 else
  let n := 4 + (s.getD 1 0).toNat
  if 48 < n then (none, false)
  else if s.length < n then (none, true)
  else if 255 - bsum (s.take (n - 1)) ≠ (s.getD (n - 1) 0).toNat then (none, false)
  else ((bodyOf (s.getD 2 0).toNat ((s.take (n - 1)).drop 3)).map fun f => (f, n), false)
theorem rds_bytes : ∀ (n : Nat) (b : List UInt8), n * 11 ≤ b.length → (rds n b).flatMap Rd.bytes = b.take (n * 11) := by
 intro n
 induction n with
 | zero => intro b _; simp [rds]
 | succ n ih =>
  intro b hb
  have hl : 11 ≤ b.length := oM
  simp only [rds, List.flatMap_cons]
  rw [ih _ (by rw [List.length_drop]; omega)]
  have e : b.take ((n + 1) * 11) = b.take 11 ++ (b.drop 11).take (n * 11) := by
   rw [show (n + 1) * 11 = 11 + n * 11 by omega, List.take_add]
  rw [e]
  congr 1
  match b, hl with
  | b0 :: b1 :: b2 :: r, _ => simp [rdOf, Rd.bytes, b8_u]
theorem rds_length : ∀ (n : Nat) (b : List UInt8), (rds n b).length = n := by
 intro n
 induction n with
 | zero => intro b; rfl
 | succ n ih => intro b; simp [rds, ih]
theorem rds_fine : ∀ (n : Nat) (b : List UInt8), n * 11 ≤ b.length → ∀ r ∈ rds n b, 0 ≤ r.ant ∧ 0 ≤ r.str ∧ r.str ≤ 255 ∧ 0 ≤ r.age ∧ r.age ≤ 255 ∧ r.tag.length = 8 := by
 intro n
 induction n with
 | zero => intro b _ r hr; simp [rds] at hr
 | succ n ih =>
  intro b hb r hr
  simp only [rds, List.mem_cons] at hr
  rcases hr with rfl | hr
  ·have h1 := (b.getD 1 0).toNat_lt
   have h2 := (b.getD 2 0).toNat_lt
   simp only [rdOf, List.length_take, List.length_drop]
   omega
  ·exact ih _ (by rw [List.length_drop]; omega) r hr
theorem front_bytes (f : Fr) (n : Nat) (hn : n ≤ 44) (ty ck : UInt8) (B : List UInt8) (hB : B.length = n) (hty : f.ty = ty.toNat) :
  f.bytes = [165, UInt8.ofNat n, ty] ++ B ++ [ck] ↔ f.body = B ∧ ck.toNat = 255 - bsum ([165, UInt8.ofNat n, ty] ++ B) := by
 have hb : b8 f.ty = ty := by rw [hty, b8_u]
 have hn8 : b8 (n : Int) = UInt8.ofNat n := by
  apply UInt8.toNat_inj.1
  have := b8_val (n : Int)
  simp; omega
 have hs : ∀ m : Nat, b8 (255 - (m : Int) % 256) = ck ↔ ck.toNat = 255 - m % 256 := by
  intro m
  rw [← UInt8.toNat_inj]
  have := b8_val (255 - (m : Int) % 256)
  omega
 constructor
 ·intro h
  have hl := congrArg List.length h
  simp only [Fr.bytes, Fr.front, List.length_append, List.length_cons, List.length_nil] at hl
  have hl2 : f.body.length = n := oM
  have hfr : f.front = [165, UInt8.ofNat n, ty] ++ f.body := by simp only [Fr.front, hl2, hb, hn8]
  simp only [Fr.bytes, hfr, List.cons_append, List.nil_append, List.cons.injEq, true_and] at h
  have h3 := List.append_inj h oM
  refine ⟨h3.1, ?_⟩
  rw [bsum_eq, ← h3.1]
  exact (hs _).1 (by simpa using h3.2)
 ·rintro ⟨h1, h2⟩
  have hfr : f.front = [165, UInt8.ofNat n, ty] ++ B := by simp only [Fr.front, h1, hB, hb, hn8]
  simp only [Fr.bytes, hfr]
  rw [bsum_eq] at h2
  rw [(hs _).2 h2]
theorem Fr.fault_zero {f : Fr} : f.fault = 0 ↔ 1 ≤ f.ty ∧ f.ty ≤ 3 ∧ (f.ty ≠ 1 → f.reads = []) ∧ (f.ty ≠ 3 → f.warm = 0) ∧ 0 ≤ f.warm ∧ f.warm ≤ 255 ∧ f.reads.length ≤ 4 ∧ ∀ r ∈ f.reads, ¬ r.bad := by
 constructor
 ·intro h
  obtain ⟨h1, h2, h3, h4, h5, h6, h7, h8⟩ := Fr.fine h
  exact ⟨h1, h2, h7, h8, h5, h6, h3, h4⟩
 ·rintro ⟨h1, h2, h7, h8, h5, h6, h3, h4⟩
  unfold Fr.fault
  rw [if_neg oM, if_neg, if_neg oM, if_neg oM, if_neg]
  ·rintro ⟨r, hr, hb⟩; exact h4 r hr hb
  ·rintro (⟨a, b⟩ | ⟨a, b⟩)
   ·rw [h7 a] at b; simp at b
   ·exact b (h8 a)
theorem body_law (ty : UInt8) (B : List UInt8) (hn : B.length ≤ 44) : ((decode ty.toNat B).fault = 0 ∧ (decode ty.toNat B).body = B → bodyOf ty.toNat B = some (decode ty.toNat B)) ∧
  (¬ ((decode ty.toNat B).fault = 0 ∧ (decode ty.toNat B).body = B) → bodyOf ty.toNat B = none) := by
 by_cases t1 : ty.toNat = 1
 ·have hd : decode ty.toNat B = ⟨1, rds (B.length / 11) B, 0⟩ := by simp [decode, t1]
  have hbody : (⟨1, rds (B.length / 11) B, 0⟩ : Fr).body = B.take (B.length / 11 * 11) := by
   simp only [Fr.body]
   rw [if_neg (by decide), rds_bytes _ _ (Nat.div_mul_le_self _ _)]
  have hfine := rds_fine (B.length / 11) B (Nat.div_mul_le_self _ _)
  have hb2 : B.take (B.length / 11 * 11) = B ↔ B.length % 11 = 0 := by
   constructor
   ·intro h; have := congrArg List.length h; rw [List.length_take] at this; omega
   ·intro h; exact List.take_of_length_le oM
  have hf : (⟨1, rds (B.length / 11) B, 0⟩ : Fr).fault = 0 ↔ ∀ r ∈ rds (B.length / 11) B, r.ant < 4 := by
   rw [Fr.fault_zero]
   simp only [rds_length]
   constructor
   ·rintro ⟨_, _, _, _, _, _, _, h⟩ r hr
    have := h r hr; simp only [Rd.bad] at this; omega
   ·intro h
    refine ⟨by decide, by decide, by intro h; exact absurd rfl h, by intro _; trivial, by decide, by decide, oM, ?_⟩
    intro r hr hb
    have h1 := hfine r hr; have h2 := h r hr
    simp only [Rd.bad] at hb; omega
  rw [hd, hbody, hb2, hf]
  simp only [bodyOf, t1, hn, true_and, and_true]
  constructor
  ·rintro ⟨h1, h2⟩; rw [if_pos h2, if_pos h1]
  ·intro h
   by_cases h2 : B.length % 11 = 0
   ·rw [if_pos h2, if_neg (fun h1 => h ⟨h1, h2⟩)]
   ·rw [if_neg h2]; simp
 ·by_cases t2 : ty.toNat = 2
  ·have hd : decode ty.toNat B = ⟨2, [], 0⟩ := by simp [decode, t2]
   have hbody : (⟨2, [], 0⟩ : Fr).body = [] := by simp [Fr.body]
   have hf : (⟨2, [], 0⟩ : Fr).fault = 0 := by decide
   rw [hd, hbody, hf]
   simp only [bodyOf, t2, true_and]
   constructor
   ·intro h; rw [if_neg oM, if_pos h.symm]
   ·intro h; rw [if_neg oM, if_neg (fun e => h e.symm), if_neg oM]
  ·by_cases t3 : ty.toNat = 3
   ·simp only [bodyOf, t3]
    by_cases hl : B.length = 1
    ·have hd : decode 3 B = ⟨3, [], (B.getD 0 0).toNat⟩ := by simp [decode, hl]
     rw [hd]
     have h0 := (B.getD 0 0).toNat_lt
     have hbody : (⟨3, [], (B.getD 0 0).toNat⟩ : Fr).body = B := by
      match B, hl with
      | [x], _ => simp [Fr.body, b8_u]
     have hf : (⟨3, [], (B.getD 0 0).toNat⟩ : Fr).fault = 0 := by
      rw [Fr.fault_zero]; exact ⟨dM, dM, by intro _; rfl, by intro h; exact absurd rfl h, dM, dM, by simp, by intro r hr; simp at hr⟩
     rw [hbody, hf]
     simp [hl]
    ·have hd : decode 3 B = ⟨3, [], 0⟩ := by simp [decode, hl]
     rw [hd]
     have : ¬ ((⟨3, [], 0⟩ : Fr).fault = 0 ∧ (⟨3, [], 0⟩ : Fr).body = B) := by
      rintro ⟨_, h⟩; rw [← h] at hl; simp [Fr.body] at hl
     simp [this, hl]
   ·have : ¬ ((decode ty.toNat B).fault = 0 ∧ (decode ty.toNat B).body = B) := by
     rintro ⟨h, _⟩
     rw [Fr.fault_zero] at h
     simp only [decode] at h
     omega
    simp [this, bodyOf, t1, t2, t3]
theorem first_law (s : List UInt8) (hs : s ≠ []) : (first s).1 = fAt s ∧ (fAt s = none → ((first s).2 = true ↔ begins s)) ∧ (fAt s ≠ none → (first s).2 = false) := by
 have hl : 0 < s.length := List.length_pos_iff.2 hs
 by_cases h0 : s.getD 0 0 = 165
 rotate_left
 ·have e1 : first s = (none, false) := by unfold first; rw [if_pos h0]
  have e2 : fAt s = none := by unfold fAt; rw [if_pos (.inr (.inl h0))]
  have e3 : ¬ begins s := by unfold begins; split; exact h0; intro h; exact h0 h.1
  rw [e1, e2]; simp [e3]
 by_cases h1 : s.length < 2
 ·have e1 : first s = (none, true) := by unfold first; rw [if_neg (fun e => e h0), if_pos h1]
  have e2 : fAt s = none := by unfold fAt; rw [if_pos (.inl oM)]
  have e3 : begins s := by unfold begins; rw [if_pos oM]; exact h0
  rw [e1, e2]; simp [e3]
 by_cases h2 : 44 < (s.getD 1 0).toNat
 ·have e1 : first s = (none, false) := by unfold first; rw [if_neg (fun e => e h0), if_neg h1]; simp only; rw [if_pos oM]
  have e2 : fAt s = none := by unfold fAt; rw [if_pos oM]
  have e3 : ¬ begins s := by unfold begins; rw [if_neg oM]; omega
  rw [e1, e2]; simp [e3]
 by_cases h3 : s.length < 4 + (s.getD 1 0).toNat
 ·have e1 : first s = (none, true) := by unfold first; rw [if_neg (fun e => e h0), if_neg h1]; simp only; rw [if_neg oM, if_pos h3]
  have e2 : fAt s = none := by unfold fAt; rw [if_pos oM]
  have e3 : begins s := by unfold begins; rw [if_neg oM]; exact ⟨h0, oM, h3⟩
  rw [e1, e2]; simp [e3]
 have e3 : ¬ begins s := by unfold begins; rw [if_neg oM]; omega
 have hn : (s.getD 1 0).toNat ≤ 44 := oM
 generalize hnn : (s.getD 1 0).toNat = n at *
 have hB : ((s.drop 3).take n).length = n := by simp only [List.length_take, List.length_drop]; omega
 have hs1 : s.take (4 + n) = [165, UInt8.ofNat n, s.getD 2 0] ++ (s.drop 3).take n ++ [s.getD (3 + n) 0] := by
  have h4 : s.take (4 + n) = s.take (3 + n) ++ [s.getD (3 + n) 0] := by rw [show 4 + n = (3 + n) + 1 by omega, take_succ_d 0 oM]
  have h5 : s.take (3 + n) = s.take 3 ++ (s.drop 3).take n := by rw [List.take_add]
  have h6 : s.take 3 = [165, UInt8.ofNat n, s.getD 2 0] := by
   match s, h1, h3 with
   | [a, b], _, h3 => simp at h3; omega
   | a :: b :: c :: r, _, _ => simp at h0 hnn ⊢; exact ⟨h0, by rw [← hnn]; simp⟩
  rw [h4, h5, h6]
 have hs2 : s.take (4 + n - 1) = [165, UInt8.ofNat n, s.getD 2 0] ++ (s.drop 3).take n := by
  have : s.take (4 + n - 1) = (s.take (4 + n)).take (3 + n) := by rw [List.take_take, show min (3 + n) (4 + n) = 4 + n - 1 by omega]
  rw [this, hs1, List.take_left' (by simp only [List.length_append, List.length_cons, List.length_nil, hB] <;> omega)]
 have hs3 : (s.take (4 + n - 1)).drop 3 = (s.drop 3).take n := by rw [hs2]; rfl
 have law := body_law (s.getD 2 0) ((s.drop 3).take n) oM
 have fb := front_bytes (decode (s.getD 2 0).toNat ((s.drop 3).take n)) n hn (s.getD 2 0) (s.getD (3 + n) 0) _ hB rfl
 rw [← hs1] at fb
 have e1 : first s = if 255 - bsum (s.take (4 + n - 1)) ≠ (s.getD (4 + n - 1) 0).toNat then (none, false) else ((bodyOf (s.getD 2 0).toNat ((s.take (4 + n - 1)).drop 3)).map fun f => (f, 4 + n), false) := by
  unfold first; rw [if_neg (fun e => e h0), if_neg h1]; simp only [hnn]; rw [if_neg oM, if_neg oM]
 have e2 : fAt s = if (decode (s.getD 2 0).toNat ((s.drop 3).take n)).fault ≠ 0 ∨ (decode (s.getD 2 0).toNat ((s.drop 3).take n)).bytes ≠ s.take (4 + n) then none else some (decode (s.getD 2 0).toNat ((s.drop 3).take n), 4 + n) := by
  unfold fAt; rw [if_neg (by rw [hnn]; rintro (h | h | h | h); omega; exact h h0; omega; omega)]; simp only [hnn]
 rw [show 4 + n - 1 = 3 + n by omega] at e1 hs2 hs3
 rw [hs3, hs2] at e1
 rw [e1, e2]
 by_cases hc : (s.getD (3 + n) 0).toNat = 255 - bsum ([165, UInt8.ofNat n, s.getD 2 0] ++ (s.drop 3).take n)
 ·rw [if_neg oM]
  by_cases hb : (decode (s.getD 2 0).toNat ((s.drop 3).take n)).fault = 0 ∧ (decode (s.getD 2 0).toNat ((s.drop 3).take n)).body = (s.drop 3).take n
  ·rw [law.1 hb, if_neg]
   ·simp
   ·simp only [ne_eq, fb]; rw [hb.1, hb.2]; simp; exact hc
  ·rw [law.2 hb, if_pos]
   ·simp [e3]
   ·simp only [ne_eq, fb]
    by_cases hf : (decode (s.getD 2 0).toNat ((s.drop 3).take n)).fault = 0
    ·exact .inr fun h => hb ⟨hf, h.1⟩
    ·exact .inl hf
 ·rw [if_pos oM, if_pos]
  ·simp [e3]
  ·simp only [ne_eq, fb]; exact .inr fun h => hc h.2
theorem rds_get : ∀ (n : Nat) (b : List UInt8) (j : Nat), j < n → (rds n b).getD j default = rdOf (b.drop (j * 11)) := by
 intro n
 induction n with
 | zero => intro b j hj; omega
 | succ n ih =>
  intro b j hj
  cases j with
  | zero => simp [rds]
  | succ j =>
   have := ih (b.drop 11) j oM
   rw [List.drop_drop, show 11 + j * 11 = (j + 1) * 11 by omega] at this
   simpa [rds] using this
theorem rds_take (n : Nat) (b : List UInt8) (j : Nat) (hj : j < n) : (rds n b).take (j + 1) = (rds n b).take j ++ [rdOf (b.drop (j * 11))] := by
 rw [take_succ_d default (by rw [rds_length]; exact hj), rds_get n b j hj]
theorem u8_165 (b : UInt8) : b = 165 ↔ b.toNat = 165 := by rw [← UInt8.toNat_inj]; rfl
theorem zeroV (h : Heap) : FrV h (.agg #[.int .i64 0, .slice none 0 0, .int .i64 0]) Fr.zero := ⟨_, rfl, Sl.nil⟩
theorem Rd.enc_len (r : Rd) : r.enc.length = 4 := rfl
theorem Rd.enc_one (r : Rd) : r.enc.all one = true := rfl
theorem wrap_u8 (b : UInt8) : IntKind.i64.wrap (b.toNat : Int) = (b.toNat : Int) := by
 have := b.toNat_lt
 exact w64 oM oM
theorem OwnS.slf {α : Type} {enc : α → List Value} {sz : Nat} (he : ∀ x, (enc x).length = sz) {h0 h : Heap} {v : Value} {l : List α} (ho : OwnS enc sz h0 h v l) : Sl enc (fr h0 h) v l := by
 obtain ⟨_, a, cap, h1, h2, _, h3⟩ := ho
 refine ⟨a, cap, h1, h2, ?_⟩
 rcases h3 with ⟨_, h4, _⟩ | ⟨b, c, t, h4, h4', h5, h6, h7⟩
 ·exact .inl h4
 ·refine .inr ⟨_, h4, rfl, c, t, _, by simp only [fr, h4']; exact h5, ?_, ?_⟩
  ·rw [flat_len he, h6]
   have := Nat.mul_le_mul_right sz h2
   simpa using this
  ·intro i hi
   simpa using h7 i hi
def S72 : Spec := fun args h K => ∃ (k : Nat) (b : List UInt8), args = [.int .i64 k, .string (str b)] ∧ b.length < 2 ^ 62 ∧
 ∀ v h', Heap.le h h' → FrV (fr h h') v ((bodyOf k b).getD Fr.zero) → K (.tuple #[v, .bool (bodyOf k b).isSome]) h'
set_option maxRecDepth 4000 in
theorem F72_ok {N : Num} {Γ : Ctx} [GoodC Γ] : Sat S72 (SF N Γ F72) := by
 rintro _ h K ⟨k, b, rfl, hb, hK⟩
 refine i_fun rfl ?_
 simp only [F72, Ze, Nat.reduceSub, Nat.reduceAdd]
 refine sw0 ?_
 have em : Int.tmod (b.length : Int) 11 = ((b.length % 11 : Nat) : Int) := by rw [Int.tmod_eq_emod_of_nonneg oM]; omega
 rw [em]
 refine i_meet_cond_blk (fun env h' => ∃ f v, Heap.le h h' ∧ FrV (fr h h') v f ∧ bodyOf k b = some f ∧ env = [none, none, some (.agg #[.int .i64 0, .slice none 0 0, .int .i64 0]), none, some v, none, none, none, none, none, none, none, none, none]) ?_ ?_
 ·rintro env h' ⟨f, v, hle, ⟨sv, rfl, hs⟩, hbo, rfl⟩
  refine sw1 @hs.one ?_
  rw [hbo] at hK
  exact hK _ h' hle ⟨sv, rfl, hs⟩
 ·refine i_cond (fun c1 => ?_) (fun c1 => ?_)
  ·have hk : k = 1 := oM
   have hm : b.length % 11 = 0 := oM
   have hl : b.length ≤ 44 := oM
   have hbo : bodyOf k b = if ∀ r ∈ rds (b.length / 11) b, r.ant < 4 then some (⟨1, rds (b.length / 11) b, 0⟩ : Fr) else none := by
    unfold bodyOf; rw [if_pos ⟨hk, hm, hl⟩]
   refine sw0 ?_
   refine i_loop (fun (s : Nat × Value) => [none, some (.string (str (b.drop (s.1 * 11)))), some (.agg #[.int .i64 0, .slice none 0 0, .int .i64 0]), none, some (.agg #[.int .i64 k, s.2, .int .i64 0]), none, none, none, none, none, none, none, none, none])
    (fun s h' => s.1 ≤ b.length / 11 ∧ OwnS Rd.enc 4 h h' s.2 ((rds (b.length / 11) b).take s.1) ∧ ∀ j, j < s.1 → ((rds (b.length / 11) b).getD j default).ant < 4) (fun s => b.length / 11 - s.1) (0, .slice none 0 0)
    (by try simp only [Pf]; rfl) ⟨dM, OwnS.nil (Heap.le.refl _), by intro j hj; dsimp only at hj; omega⟩ ?_
   rintro ⟨j, v⟩ h' ⟨hj, ho, hg⟩
   dsimp only at hj ho hg
   refine sw0 ?_
   refine i_cond (fun c2 => ?_) (fun c2 => ?_)
   ·have hj2 : j < b.length / 11 := by
     have : (b.drop (j * 11)).length ≠ 0 := by intro h0; exact c2 (List.eq_nil_of_length_eq_zero h0)
     simp only [List.length_drop] at this
     omega
    have hdl : (b.drop (j * 11)).length = b.length - j * 11 := List.length_drop
    refine sw1 @wrap_u8 ?_
    refine i_cond (fun c3 => ?_) (fun c3 => ?_)
    ·refine sw0 ?_
     have : bodyOf k b = none := by
      rw [hbo, if_neg]
      intro h4
      have h5 := h4 _ (getD_mem default (l := rds (b.length / 11) b) (i := j) (by rw [rds_length]; omega))
      rw [rds_get _ _ _ hj2] at h5
      simp only [rdOf] at h5
      omega
     rw [this] at hK
     exact hK _ h' ho.1 (zeroV _)
    ·refine sw1 @wrap_u8 ?_
     refine i_bslS Rd.enc 4 Rd.enc_len [rdOf (b.drop (j * 11))] (by simp [Rd.enc, rdOf, List.take_drop]) rfl (by simp [maxLen]) fun v1 h1 hle1 ho1 => ?_
     refine sw0 ?_
     refine i_le (le_one hle1) ?_
     refine sw0 ?_
     have hlt := List.length_take_le j (rds (b.length / 11) b)
     refine i_app Rd.enc_len Rd.enc_one (ho.le hle1) (ho1.sl Rd.enc_len) (by simp only [List.length_cons, List.length_nil]; omega) fun v2 h2 ho2 => ?_
     refine sw1 @ho2.one ?_
     refine k_loop (j + 1, v2) dM ?_ ⟨dM, ?_, ?_⟩
     ·try simp only [Pf]
      rw [List.take_of_length_le (by rw [hdl]; omega), List.drop_drop, show j * 11 + 11 = (j + 1) * 11 by omega]
     ·dsimp only; rw [rds_take _ _ _ hj2]; exact ho2
     ·intro i hi
      dsimp only at hi
      by_cases e : i = j
      ·subst e; rw [rds_get _ _ _ hj2]; simp only [rdOf]; omega
      ·exact hg i oM
   ·refine sw0 ?_
    have hj2 : j = b.length / 11 := by
     have := congrArg List.length (show b.drop (j * 11) = [] by simpa using c2)
     simp only [List.length_drop, List.length_nil] at this
     omega
    subst hj2
    refine k_meet _ ?_ ⟨⟨1, rds (b.length / 11) b, 0⟩, .agg #[.int .i64 1, v, .int .i64 0], ho.1, ?_, ?_, rfl⟩
    rotate_left
    ·refine ⟨v, rfl, ?_⟩
     have := ho.slf Rd.enc_len
     rwa [List.take_of_length_le (by rw [rds_length]; omega)] at this
    ·rw [hbo, if_pos]
     intro r hr
     obtain ⟨i, hi, rfl⟩ := List.getElem_of_mem hr
     rw [rds_length] at hi
     have := hg i hi
     rwa [List.getD_eq_getElem?_getD, List.getElem?_eq_getElem (by rw [rds_length]; exact hi)] at this
    ·try simp only [Pf]; rw [hk]; rfl
  ·refine sw0 ?_
   refine i_cond (fun c2 => ?_) (fun c2 => ?_)
   ·refine sw0 ?_
    refine k_meet _ ?_ ⟨⟨2, [], 0⟩, .agg #[.int .i64 2, .slice none 0 0, .int .i64 0], Heap.le.refl _, ⟨_, rfl, Sl.nil (a := none) (c := 0)⟩, ?_, rfl⟩
    ·try simp only [Pf]; rw [show k = 2 by omega]; rfl
    ·unfold bodyOf; rw [if_neg oM, if_pos ⟨oM, c2.2⟩]
   ·refine sw0 ?_
    refine i_cond (fun c3 => ?_) (fun c3 => ?_)
    ·refine sw1 @wrap_u8 ?_
     refine k_meet _ ?_ ⟨⟨3, [], (b.getD 0 0).toNat⟩, .agg #[.int .i64 3, .slice none 0 0, .int .i64 (b.getD 0 0).toNat], Heap.le.refl _, ⟨_, rfl, Sl.nil (a := none) (c := 0)⟩, ?_, rfl⟩
     ·try simp only [Pf]; rw [show k = 3 by omega]; rfl
     ·unfold bodyOf; rw [if_neg oM, if_neg (by rintro ⟨h1, h2⟩; omega), if_pos oM]
    ·refine sw0 ?_
     have : bodyOf k b = none := by
      unfold bodyOf; rw [if_neg oM, if_neg (by rintro ⟨h1, h2⟩; exact c2 ⟨oM, h2⟩), if_neg oM]
     rw [this] at hK
     exact hK _ h (Heap.le.refl _) (zeroV _)
def S57 : Spec := fun args h K => ∃ (s : List UInt8), args = [.string (str s)] ∧ s ≠ [] ∧ s.length < 2 ^ 62 ∧
 ∀ v h', Heap.le h h' → FrV (fr h h') v (((first s).1.map (·.1)).getD Fr.zero) → K (.tuple #[v, .int .i64 (((first s).1.map (·.2)).getD 0 : Nat), .bool (first s).2]) h'
theorem F57_ok {N : Num} {Γ : Ctx} [GoodC Γ] (H56 : Sat S56 (Γ 56)) (H72 : Sat S72 (Γ 72)) : Sat S57 (SF N Γ F57) := by
 rintro _ h K ⟨s, rfl, hne, hb, hK⟩
 have hl : 0 < s.length := List.length_pos_iff.2 hne
 refine i_fun rfl ?_
 simp only [F57, Ze, Nat.reduceSub, Nat.reduceAdd]
 refine sw0 ?_
 refine i_cond (fun c1 => ?_) (fun c1 => ?_)
 ·refine sw0 ?_
  have : first s = (none, false) := by unfold first; rw [if_pos (by rw [Ne, u8_165]; omega)]
  rw [this] at hK
  exact hK _ h (Heap.le.refl _) (zeroV _)
 have c1' : s.getD 0 0 = 165 := by rw [u8_165]; omega
 refine sw0 ?_
 refine i_cond (fun c2 => ?_) (fun c2 => ?_)
 ·refine sw0 ?_
  have : first s = (none, true) := by unfold first; rw [if_neg (fun e => e c1'), if_pos oM]
  rw [this] at hK
  exact hK _ h (Heap.le.refl _) (zeroV _)
 have hn := (s.getD 1 0).toNat_lt
 have hf : first s = if 48 < 4 + (s.getD 1 0).toNat then (none, false) else if s.length < 4 + (s.getD 1 0).toNat then (none, true)
   else if 255 - bsum (s.take (4 + (s.getD 1 0).toNat - 1)) ≠ (s.getD (4 + (s.getD 1 0).toNat - 1) 0).toNat then (none, false)
   else ((bodyOf (s.getD 2 0).toNat ((s.take (4 + (s.getD 1 0).toNat - 1)).drop 3)).map fun f => (f, 4 + (s.getD 1 0).toNat), false) := by
  unfold first; rw [if_neg (fun e => e c1'), if_neg oM]
 generalize hnn : (s.getD 1 0).toNat = n at *
 have e1 : IntKind.i64.wrap (4 + IntKind.i64.wrap (n : Int)) = ((4 + n : Nat) : Int) := by rw [w64 (n := (n : Int)) oM oM, w64 oM oM]; omega
 refine sw2 @hnn @e1 ?_
 refine i_cond (fun c3 => ?_) (fun c3 => ?_)
 ·refine sw0 ?_
  rw [if_pos oM] at hf
  rw [hf] at hK
  exact hK _ h (Heap.le.refl _) (zeroV _)
 rw [if_neg oM] at hf
 refine sw0 ?_
 refine i_cond (fun c4 => ?_) (fun c4 => ?_)
 ·refine sw0 ?_
  rw [if_pos oM] at hf
  rw [hf] at hK
  exact hK _ h (Heap.le.refl _) (zeroV _)
 rw [if_neg oM] at hf
 have e2 : IntKind.i64.wrap (((4 + n : Nat) : Int) - 1) = ((4 + n - 1 : Nat) : Int) := by rw [w64 oM oM]; omega
 refine sw1 @e2 ?_
 refine i_call H56 ⟨s.take (4 + n - 1), rfl, by simp only [List.length_take]; omega, ?_⟩
 have hbs := bsum_lt (s.take (4 + n - 1))
 refine sw0 ?_
 refine i_cond (fun c5 => ?_) (fun c5 => ?_)
 ·refine sw0 ?_
  rw [if_pos oM] at hf
  rw [hf] at hK
  exact hK _ h (Heap.le.refl _) (zeroV _)
 rw [if_neg oM] at hf
 refine sw2 @e2 @wrap_u8 ?_
 refine i_call H72 ⟨(s.getD 2 0).toNat, _, rfl, by simp only [List.length_drop, List.length_take]; omega, ?_⟩
 intro v h' hle hv
 have hK2 := hK
 rw [hf] at hK
 obtain ⟨sv, rfl, hsl⟩ := hv
 refine sw1 @hsl.one ?_
 cases hbo : bodyOf (s.getD 2 0).toNat ((s.take (4 + n - 1)).drop 3) with
 | none =>
  rw [hbo] at hK hsl
  refine sw1 @hsl.one ?_
  exact hK _ h' hle ⟨sv, rfl, hsl⟩
 | some f =>
  rw [hbo] at hK hsl
  refine sw1 @hsl.one ?_
  exact hK _ h' hle ⟨sv, rfl, hsl⟩
def S59 : Spec := fun args h K => ∃ (s : List UInt8), args = [.string (str s)] ∧ s ≠ [] ∧ s.length < 2 ^ 62 ∧ K (.bool (decide (begins s))) h
theorem F59_ok {N : Num} {Γ : Ctx} [GoodC Γ] : Sat S59 (SF N Γ F59) := by
 rintro _ h K ⟨s, rfl, hne, hb, hK⟩
 have hl : 0 < s.length := List.length_pos_iff.2 hne
 have hn := (s.getD 1 0).toNat_lt
 refine i_fun rfl ?_
 simp only [F59, Ze, Nat.reduceSub, Nat.reduceAdd]
 refine sw0 ?_
 refine i_cond (fun c1 => ?_) (fun c1 => ?_)
 ·refine sw0 ?_
  have : begins s ↔ ((s.getD 0 0).toNat : Int) = 165 := by unfold begins; rw [if_pos oM, u8_165]; omega
  rw [decide_eq_decide.2 this] at hK; exact hK
 ·refine sw0 ?_
  generalize hnn : (s.getD 1 0).toNat = n at *
  have e1 : IntKind.i64.wrap (4 + IntKind.i64.wrap (n : Int)) = ((4 + n : Nat) : Int) := by rw [w64 (n := (n : Int)) oM oM, w64 oM oM]; omega
  refine sw2 @hnn @e1 ?_
  have : begins s ↔ (((s.getD 0 0).toNat : Int) = 165 ∧ (n : Int) ≤ 44) ∧ (s.length : Int) < ((4 + n : Nat) : Int) := by unfold begins; rw [if_neg oM, u8_165, hnn]; omega
  rw [decide_eq_decide.2 this] at hK; exact hK
def S58 : Spec := fun args h K => ∃ (s : List UInt8), args = [.string (str s)] ∧ s.length < 2 ^ 62 ∧
 ∀ v h', Heap.le h h' → FrV (fr h h') v (((fAt s).map (·.1)).getD Fr.zero) → K (.tuple #[v, .int .i64 (((fAt s).map (·.2)).getD 0 : Nat)]) h'
theorem F58_ok {N : Num} {Γ : Ctx} [GoodC Γ] (H17 : Sat S17 (Γ 17)) (H22 : Sat S22 (Γ 22)) : Sat S58 (SF N Γ F58) := by
 rintro _ h K ⟨s, rfl, hb, hK⟩
 refine i_fun rfl ?_
 simp only [F58, Ze, Nat.reduceSub, Nat.reduceAdd]
 by_cases h4 : (s.length : Int) < 4
 ·have hf : fAt s = none := by unfold fAt; rw [if_pos (.inl oM)]
  refine sw1 @h4 ?_
  rw [hf] at hK
  exact hK _ h (Heap.le.refl _) (zeroV _)
 have hn := (s.getD 1 0).toNat_lt
 refine sw1 @h4 ?_
 generalize hnn : (s.getD 1 0).toNat = n at *
 have e0 : IntKind.i64.wrap (n : Int) = (n : Int) := w64 oM oM
 have e1 : IntKind.i64.wrap (4 + (n : Int)) = ((4 + n : Nat) : Int) := by rw [w64 oM oM]; omega
 have e3 : IntKind.i64.wrap (3 + (n : Int)) = ((3 + n : Nat) : Int) := by rw [w64 oM oM]; omega
 refine sw4 @hnn @e0 @e1 @h4 ?_

 refine i_cond (fun c1 => ?_) (fun c1 => ?_)
 ·refine sw0 ?_
  have hf : fAt s = none := by
   unfold fAt; rw [if_pos]
   simp only [u8_165, ne_eq, hnn]; omega
  rw [hf] at hK
  exact hK _ h (Heap.le.refl _) (zeroV _)
 have hn44 : n ≤ 44 := oM
 have hsl : 4 + n ≤ s.length := oM
 have hf : fAt s = if (decode (s.getD 2 0).toNat ((s.drop 3).take n)).fault ≠ 0 ∨ (decode (s.getD 2 0).toNat ((s.drop 3).take n)).bytes ≠ s.take (4 + n) then none else some (decode (s.getD 2 0).toNat ((s.drop 3).take n), 4 + n) := by
  unfold fAt; rw [if_neg (by simp only [u8_165, ne_eq, hnn]; omega)]; simp only [hnn]
 have hBl : ((s.drop 3).take n).length = n := by simp only [List.length_take, List.length_drop]; omega
 have hBe : (s.take (3 + n)).drop 3 = (s.drop 3).take n := by rw [List.drop_take]; congr 1; omega
 refine sw4 @hnn @e0 @e3 @wrap_u8 ?_
 rw [hBe]
 generalize hB : (s.drop 3).take n = B at *
 generalize hty : s.getD 2 0 = ty at *
 refine i_meet_cond (fun env h' => ∃ sv, OwnS Rd.enc 4 h h' sv (decode ty.toNat B).reads ∧ env = [some (.string (str s)), some (.agg #[.int .i64 0, .slice none 0 0, .int .i64 0]), none, some (.int .i64 n), some (.agg #[.int .i64 ty.toNat, sv, .int .i64 0]), some (.string (str B)), none, none, none, none, none, none, none, none, none, none, none, none, none, none, none]) ?_ ?_
 ·rintro env h' ⟨sv, ho, rfl⟩
  have b0 : ty.toNat = 3 → n = 1 → (decode ty.toNat B).warm = (B.getD 0 0).toNat := by intro h1 h2; simp only [decode]; rw [if_pos ⟨h1, oM⟩]
  have b1 : ¬ (ty.toNat = 3 ∧ n = 1) → (decode ty.toNat B).warm = 0 := by intro h1; simp only [decode]; rw [if_neg oM]
  refine sw0 ?_
  refine i_meet_cond (fun env h'' => h'' = h' ∧ env = [some (.string (str s)), some (.agg #[.int .i64 0, .slice none 0 0, .int .i64 0]), none, some (.int .i64 n), some (.agg #[.int .i64 ty.toNat, sv, .int .i64 (decode ty.toNat B).warm]), some (.string (str B)), none, none, none, none, none, none, none, none, none, none, none, none, none, none, none]) ?_ ?_
  ·rintro env h2 ⟨e2, rfl⟩
   rw [e2]; clear e2
   have hvf : FrV (fr h h') (.agg #[.int .i64 ty.toNat, sv, .int .i64 (decode ty.toNat B).warm]) (decode ty.toNat B) := ⟨sv, rfl, ho.slf Rd.enc_len⟩
   have hv2 : FrV h' (.agg #[.int .i64 ty.toNat, sv, .int .i64 (decode ty.toNat B).warm]) (decode ty.toNat B) := hvf.le (fr_le _ _)
   refine sw0 ?_
   refine i_call H17 ⟨_, _, rfl, hv2, ?_⟩
   refine sw0 ?_
   by_cases hft : (decode ty.toNat B).fault = 0
   ·have hn0 : ¬ (0 : Int) < (decode ty.toNat B).fault := oM
    refine sw2 @hn0 @e1 ?_
    refine i_call H22 ⟨_, _, rfl, hv2, hft, fun h'' hle2 => ?_⟩
    refine sw2 @hn0 @e1 ?_
    refine i_cond (fun c2 => ?_) (fun c2 => ?_)
    ·refine sw0 ?_
     rw [if_pos (.inr c2)] at hf
     rw [hf] at hK
     exact hK _ h'' (ho.1.trans hle2) (zeroV _)
    ·refine sw2 @ho.one @e1 ?_
     rw [if_neg (by rintro (h1 | h1); exact h1 hft; exact c2 h1)] at hf
     rw [hf] at hK
     exact hK _ h'' (ho.1.trans hle2) (hvf.le (fr_mono hle2))
   ·refine sw1 (show (0 : Int) < (decode ty.toNat B).fault by omega) ?_
    rw [if_pos (.inl hft)] at hf
    rw [hf] at hK
    exact hK _ h' ho.1 (zeroV _)
  ·refine i_cond (fun c2 => ?_) (fun c2 => ?_)
   ·refine sw1 @wrap_u8 ?_
    refine k_meet _ ?_ ⟨rfl, rfl⟩
    try simp only [Pf]; rw [b0 oM oM]
   ·refine sw0 ?_
    refine k_meet _ ?_ ⟨rfl, rfl⟩
    try simp only [Pf]; rw [b1 oM]
 ·refine i_cond (fun c2 => ?_) (fun c2 => ?_)
  ·have ht : ty.toNat = 1 := oM
   have hr : (decode ty.toNat B).reads = rds (n / 11) B := by simp only [decode]; rw [if_pos ht, hBl]
   refine sw0 ?_
   refine i_loop (fun (p : Nat × Value) => [some (.string (str s)), some (.agg #[.int .i64 0, .slice none 0 0, .int .i64 0]), none, some (.int .i64 n), some (.agg #[.int .i64 ty.toNat, p.2, .int .i64 0]), some (.string (str B)), some (.int .i64 (p.1 * 11 : Nat)), none, none, none, none, none, none, none, none, none, none, none, none, none, none])
    (fun p h' => p.1 ≤ n / 11 ∧ OwnS Rd.enc 4 h h' p.2 ((rds (n / 11) B).take p.1)) (fun p => n / 11 - p.1) (0, .slice none 0 0)
    (by try simp only [Pf]; rfl) ⟨dM, OwnS.nil (Heap.le.refl _)⟩ ?_
   rintro ⟨j, v⟩ h' ⟨hj, ho⟩
   dsimp only at hj ho
   refine sw0 ?_
   refine i_cond (fun c3 => ?_) (fun c3 => ?_)
   ·have hj2 : j < n / 11 := oM
    refine sw1 @wrap_u8 ?_
    have e5 : (B.take (j * 11 + 11)).drop (j * 11 + 3) = ((B.drop (j * 11)).drop 3).take 8 := by
     rw [List.drop_take, List.drop_drop]; congr 1; omega
    refine i_bslS Rd.enc 4 Rd.enc_len [rdOf (B.drop (j * 11))] (by simp [Rd.enc, rdOf, e5]) rfl (by simp [maxLen]) fun v1 h1 hle1 ho1 => ?_
    refine sw0 ?_
    refine i_le (le_one hle1) ?_
    refine sw0 ?_
    have hlt := List.length_take_le j (rds (n / 11) B)
    refine i_app Rd.enc_len Rd.enc_one (ho.le hle1) (ho1.sl Rd.enc_len) (by simp only [List.length_cons, List.length_nil]; omega) fun v2 h2 ho2 => ?_
    refine sw1 @ho2.one ?_
    refine k_loop (j + 1, v2) dM ?_ ⟨dM, ?_⟩
    ·try simp only [Pf]; congr 1; omega
    ·dsimp only; rw [rds_take _ _ _ hj2]; exact ho2
   ·refine sw0 ?_
    have hj2 : j = n / 11 := oM
    subst hj2
    rw [List.take_of_length_le (by rw [rds_length]; omega)] at ho
    refine k_meet _ ?_ ⟨v, by rw [hr]; exact ho, rfl⟩
    try simp only [Pf]
  ·have hr : (decode ty.toNat B).reads = [] := by simp only [decode]; rw [if_neg oM]
   refine sw0 ?_
   refine k_meet _ ?_ ⟨.slice none 0 0, by rw [hr]; exact OwnS.nil (Heap.le.refl _), rfl⟩
   try simp only [Pf]
def feedN : Nat → List UInt8 → List Fr × List UInt8 × Nat
 | 0, s => ([], s, 0)
 | n + 1, s =>
  if s = [] then ([], [], 0) else
  match fAt s with
  | some (f, k) => (f :: (feedN n (s.drop k)).1, (feedN n (s.drop k)).2)
  | none => if begins s then ([], s, 0) else ((feedN n (s.drop 1)).1, (feedN n (s.drop 1)).2.1, (feedN n (s.drop 1)).2.2 + 1)
def feed (s : List UInt8) : List Fr × List UInt8 × Nat := feedN s.length s
theorem fAt_pos {s : List UInt8} {f : Fr} {k : Nat} (h : fAt s = some (f, k)) : 4 ≤ k ∧ k ≤ s.length ∧ k ≤ 48 ∧ f.fault = 0 ∧ f.bytes = s.take k := by
 unfold fAt at h
 split at h
 ·cases h
 ·rename_i h1
  simp only at h
  split at h
  ·cases h
  ·rename_i h2
   simp only [Option.some.injEq, Prod.mk.injEq] at h
   obtain ⟨rfl, rfl⟩ := h
   refine ⟨oM, oM, oM, ?_, ?_⟩
   ·exact Classical.byContradiction fun e => h2 (.inl e)
   ·exact Classical.byContradiction fun e => h2 (.inr e)
theorem feedN_eq : ∀ (n m : Nat) (s : List UInt8), s.length ≤ n → s.length ≤ m → feedN n s = feedN m s := by
 intro n
 induction n with
 | zero =>
  intro m s h1 h2
  have : s = [] := List.eq_nil_of_length_eq_zero oM
  subst this
  cases m <;> simp [feedN]
 | succ n ih =>
  intro m s h1 h2
  by_cases hs : s = []
  ·subst hs; cases m <;> simp [feedN]
  ·have hl : 0 < s.length := List.length_pos_iff.2 hs
   cases m with
   | zero => omega
   | succ m =>
    simp only [feedN, hs, if_false]
    cases hf : fAt s with
    | none =>
     simp only
     rw [ih m (s.drop 1) (by rw [List.length_drop]; omega) (by rw [List.length_drop]; omega)]
    | some p =>
     obtain ⟨f, k⟩ := p
     have := fAt_pos hf
     simp only
     rw [ih m (s.drop k) (by rw [List.length_drop]; omega) (by rw [List.length_drop]; omega)]
theorem feed_nil : feed [] = ([], [], 0) := rfl
theorem feed_cons {s : List UInt8} (hs : s ≠ []) : feed s = match fAt s with
  | some (f, k) => (f :: (feed (s.drop k)).1, (feed (s.drop k)).2)
  | none => if begins s then ([], s, 0) else ((feed (s.drop 1)).1, (feed (s.drop 1)).2.1, (feed (s.drop 1)).2.2 + 1) := by
 have hl : 0 < s.length := List.length_pos_iff.2 hs
 obtain ⟨n, hn⟩ : ∃ n, s.length = n + 1 := ⟨s.length - 1, oM⟩
 unfold feed
 conv => lhs; rw [hn]
 simp only [feedN, hs, if_false]
 cases hf : fAt s with
 | none => simp only; rw [feedN_eq n (s.drop 1).length (s.drop 1) (by rw [List.length_drop]; omega) (Nat.le_refl _)]
 | some p =>
  obtain ⟨f, k⟩ := p
  have := fAt_pos hf
  simp only; rw [feedN_eq n (s.drop k).length (s.drop k) (by rw [List.length_drop]; omega) (Nat.le_refl _)]
def lineC (rest : List UInt8) (lost : Nat) : List Value := [.string (str rest), .int .i64 lost]
def LineAt (h : Heap) (a : Addr) (rest : List UInt8) (lost : Nat) : Prop := objAt h a (lineC rest lost)
theorem LineAt.rules {h : Heap} {a : Addr} {rest : List UInt8} {lost : Nat} (ho : LineAt h a rest lost) : h.cell a = some (.string (str rest)) ∧ h.cell (a.add 0) = some (.string (str rest)) ∧ h.cell (a.add 1) = some (.int .i64 lost) ∧ h.row a 2 = some #[.string (str rest), .int .i64 lost] := by
 obtain ⟨h1, h2, h3⟩ := objAt.rules ho
 exact ⟨h2 (by simp [lineC]), h2 (by simp [lineC]), h1 1 (by simp [lineC]), h3⟩
def S26 : Spec := fun args h K => ∃ a rest lost, args = [.pointer (some a)] ∧ LineAt h a rest lost ∧ K (.int .i64 lost) h
theorem F26_ok {N : Num} {Γ : Ctx} [GoodC Γ] : Sat S26 (SF N Γ F26) := by
 rintro _ h K ⟨a, rest, lost, rfl, ho, hK⟩
 refine i_fun rfl ?_
 simp only [F26, Ze, Nat.reduceSub, Nat.reduceAdd]
 have R := ho.rules
 refine sw1 @R ?_
 exact hK
def S24 : Spec := fun args h K => ∃ a rest lost s, args = [.pointer (some a), .string (str s)] ∧ LineAt h a rest lost ∧ rest.length + s.length ≤ 10000000 ∧ lost ≤ 2 ^ 60 ∧
 ∀ v h', keeps a 2 h h' → LineAt h' a (feed (rest ++ s)).2.1 (lost + (feed (rest ++ s)).2.2) → FrsV (fr h h') v (feed (rest ++ s)).1 → K v h'
def GFrs (g : Heap) (rs : List FrR) (fs : List Fr) : Prop := rs.length = fs.length ∧ ∀ i, i < fs.length → FrR.ok g (rs.getD i default) (fs.getD i default)
theorem GFrs.push {g g' : Heap} {rs : List FrR} {fs : List Fr} (hg : GFrs g rs fs) (hl : Heap.le g g') {r : FrR} {f : Fr} (hr : FrR.ok g' r f) : GFrs g' (rs ++ [r]) (fs ++ [f]) := by
 obtain ⟨h1, h2⟩ := hg
 refine ⟨by simp [h1], fun i hi => ?_⟩
 simp only [List.length_append, List.length_cons, List.length_nil] at hi
 by_cases e : i < fs.length
 ·have := h2 i e
  simp only [List.getD_eq_getElem?_getD] at this ⊢
  rw [List.getElem?_append_left oM, List.getElem?_append_left e]
  exact ⟨this.1, this.2.1, this.2.2.le hl⟩
 ·have e' : i = fs.length := oM
  subst e'
  simp only [List.getD_eq_getElem?_getD]
  rw [List.getElem?_append_right oM, List.getElem?_append_right (Nat.le_refl _)]
  simpa [h1] using hr
theorem GFrs.le {g g' : Heap} {rs : List FrR} {fs : List Fr} (hg : GFrs g rs fs) (hl : Heap.le g g') : GFrs g' rs fs :=
 ⟨hg.1, fun i hi => let ⟨a, b, c⟩ := hg.2 i hi; ⟨a, b, c.le hl⟩⟩
theorem FrR.enc_len (r : FrR) : r.enc.length = 3 := rfl
theorem keeps_dom {a : Addr} {n : Nat} {h0 g : Heap} (k : keeps a n h0 g) {o : Obj} (ha : g a.block = some o) : ∀ b, g b = none → h0 b = none := by
 intro b hb
 cases hh : h0 b with
 | none => rfl
 | some x =>
  by_cases e : b = a.block
  ·subst e; rw [ha] at hb; cases hb
  ·rw [k.1 b x e hh] at hb; cases hb
theorem fr_set {h0 g : Heap} {b : Nat} {o o' : Obj} (hb : h0 b = some o) : fr h0 (g.set b o') = fr h0 g := by
 funext x
 simp only [fr, Heap.set]
 split
 ·rename_i hx
  split
  ·rename_i e; subst e; rw [hb] at hx; cases hx
  ·rfl
 ·rfl
def FeedI (h0 : Heap) (a : Addr) (rest : List UInt8) (lost : Nat) (out : Value) (fs : List Fr) (h : Heap) : Prop :=
 ∃ g rs, OwnS FrR.enc 3 g h out rs ∧ LineAt g a rest lost ∧ keeps a 2 h0 g ∧ GFrs (fr h0 g) rs fs
theorem FeedI.line {h0 : Heap} {a : Addr} {rest : List UInt8} {lost : Nat} {out : Value} {fs : List Fr} {h : Heap} (hI : FeedI h0 a rest lost out fs h) : LineAt h a rest lost := by
 obtain ⟨g, rs, h1, h2, h3, h4⟩ := hI
 exact objAt.le h2 h1.1
theorem FeedI.grow {h0 : Heap} {a : Addr} {rest : List UInt8} {lost : Nat} {out : Value} {fs : List Fr} {h h1 : Heap} (hI : FeedI h0 a rest lost out fs h) (hl : Heap.le h h1) :
  ∃ g rs, OwnS FrR.enc 3 g h1 out rs ∧ LineAt g a rest lost ∧ keeps a 2 h0 g ∧ GFrs (fr h0 g) rs fs ∧ Heap.le (fr h h1) (fr h0 g) := by
 obtain ⟨g, rs, a1, a2, a3, a4⟩ := hI
 have jl := join_l g (fr h h1)
 refine ⟨join g (fr h h1), rs, a1.grow hl, objAt.le a2 jl, a3.trans (.of_le jl), a4.le (fr_mono jl), ?_⟩
 intro b o hb
 have hbn : h b = none := by
  cases hh : h b with
  | none => rfl
  | some x => simp [fr, hh] at hb
 obtain ⟨_, c, t, h5, _⟩ := a2
 have hgb : g b = none := le_none a1.1 b hbn
 have h0b : h0 b = none := keeps_dom a3 h5 b hgb
 have e : (join g (fr h h1)) b = some o := by simp only [join, hgb]; simpa using hb
 simp only [fr, h0b]; exact e
theorem FeedI.add {h0 : Heap} {a : Addr} {rest : List UInt8} {lost : Nat} {out : Value} {fs : List Fr} {h : Heap} {g : Heap} {rs : List FrR} {r : FrR} {f : Fr}
  (h4 : LineAt g a rest lost) (h5 : keeps a 2 h0 g) (h6 : GFrs (fr h0 g) rs fs) (hr : FrR.ok (fr h0 g) r f) (ho : OwnS FrR.enc 3 g h out (rs ++ [r])) : FeedI h0 a rest lost out (fs ++ [f]) h :=
 ⟨g, rs ++ [r], ho, h4, h5, h6.push (Heap.le.refl _) hr⟩
theorem FeedI.write {N : Num} {Γ : Ctx} {h0 : Heap} {a : Addr} {rest : List UInt8} {lost : Nat} {out : Value} {fs : List Fr} {h : Heap} (hI : FeedI h0 a rest lost out fs h) (h00 : ∃ o, h0 a.block = some o) (j : Nat) {x : Value} (rest' : List UInt8) (lost' : Nat)
  (hx : x.cells.size = 1) (h1 : x.cells.toList.all one = true) (hj : j + 1 ≤ 2) (he : (lineC rest lost).take j ++ x.cells.toList ++ (lineC rest lost).drop (j + 1) = lineC rest' lost') {K : Value → Heap → Prop}
  (hK : ∀ h', FeedI h0 a rest' lost' out fs h' → K undef h') : efW N Γ (.st 1) [.pointer (some (a.add j)), x] h K := by
 obtain ⟨g, rs, a1, a2, a3, a4⟩ := hI
 have a2' := objAt.le a2 a1.1
 obtain ⟨o0, ho0⟩ := h00
 have hg : ∃ o, g a.block = some o := by obtain ⟨_, c, t, h5, _⟩ := a2; exact ⟨_, h5⟩
 obtain ⟨og, hog⟩ := hg
 have hgh : g a.block = h a.block := by rw [hog, a1.1 _ _ hog]
 refine i_st a2' j 1 hx h1 oM hj fun o h2 h3 => hK _ ⟨g.set a.block o, rs, a1.set hog, ?_, a3.trans (h3 g hgh), ?_⟩
 ·have := h2 g hgh; rw [he] at this; exact this
 ·rw [fr_set ho0]; exact a4
theorem FeedI.done {h0 : Heap} {a : Addr} {rest : List UInt8} {lost : Nat} {out : Value} {fs : List Fr} {h : Heap} (hI : FeedI h0 a rest lost out fs h) (h00 : ∃ o, h0 a.block = some o) : keeps a 2 h0 h ∧ LineAt h a rest lost ∧ FrsV (fr h0 h) out fs := by
 obtain ⟨g, rs, a1, a2, a3, a4⟩ := hI
 refine ⟨a3.trans (.of_le a1.1), objAt.le a2 a1.1, rs, ?_, a4.1, fun i hi => ?_⟩
 ·obtain ⟨_, c, t, h5, _⟩ := a2
  have := (a1.slf (sz := 3) FrR.enc_len).le (fr_anti (g := h0) (keeps_dom a3 h5))
  exact this
 ·have := a4.2 i hi
  exact ⟨this.1, this.2.1, this.2.2.le (fr_mono a1.1)⟩
theorem F24_ok {N : Num} {Γ : Ctx} [GoodC Γ] (H57 : Sat S57 (Γ 57)) : Sat S24 (SF N Γ F24) := by
 rintro _ h K ⟨a, rest, lost, s, rfl, ho, hlen, hlost, hK⟩
 have h00 : ∃ o, h a.block = some o := by obtain ⟨_, c, t, h5, _⟩ := ho; exact ⟨_, h5⟩
 refine i_fun rfl ?_
 simp only [F24, Ze, Nat.reduceSub, Nat.reduceAdd]
 refine sw1 @ho.rules ?_
 refine i_meet_blk (fun env h' => ∃ s' out l fs, FeedI h a rest l out fs h' ∧ feed (rest ++ s) = (fs, s', l - lost) ∧ lost ≤ l ∧ l ≤ 2 ^ 61 ∧ env = [some (.pointer (some a)), some (.string (str s')), none, some out, none, none, none, none, none, none, none, none, none, none, none, none, none]) ?_ ?_
 ·rintro env h' ⟨s', out, l, fs, hI, hf, hl, _, rfl⟩
  refine sw0 ?_
  refine hI.write h00 0 s' l rfl rfl oM rfl fun h2 hI2 => ?_
  refine sw0 ?_
  obtain ⟨k1, k2, k3⟩ := hI2.done h00
  rw [hf] at hK
  refine hK out h2 k1 ?_ k3
  dsimp only
  rw [show lost + (l - lost) = l by omega]; exact k2
 ·refine i_loop (fun (p : List UInt8 × Value × Nat) => [some (.pointer (some a)), some (.string (str p.1)), none, some p.2.1, none, none, none, none, none, none, none, none, none, none, none, none, none])
   (fun p h' => ∃ fs, FeedI h a rest p.2.2 p.2.1 fs h' ∧ feed (rest ++ s) = (fs ++ (feed p.1).1, (feed p.1).2.1, p.2.2 - lost + (feed p.1).2.2) ∧ lost ≤ p.2.2 ∧ p.2.2 + p.1.length ≤ lost + 10000000 ∧ fs.length * 4 + p.1.length ≤ 10000000)
   (fun p => p.1.length) (rest ++ s, .slice none 0 0, lost) sE ⟨[], ⟨h, [], OwnS.nil (Heap.le.refl _), ho, keeps.refl _ _ _, by simp [GFrs]⟩, by simp, by simp, by simp; omega, by simp; omega⟩ ?_
  rintro ⟨s', out, l⟩ h' ⟨fs, hI, hf, hl, hb1, hb2⟩
  dsimp only at hI hf hl hb1 hb2
  refine sw0 ?_
  refine i_cond (fun c1 => ?_) (fun c1 => ?_)
  rotate_left
  ·have : s' = [] := by simpa using c1
   subst this
   refine sw0 ?_
   refine k_meet _ ?_ ⟨[], out, l, fs, hI, ?_, hl, oM, rfl⟩
   ·try simp only [Pf]
   ·rw [hf, feed_nil]; simp
  have hlaw := first_law s' c1
  have hfc := feed_cons c1
  have hp : 0 < s'.length := List.length_pos_iff.2 c1
  refine sw0 ?_
  refine i_call H57 ⟨s', rfl, c1, oM, fun v h1 hle hv => ?_⟩
  obtain ⟨g, rs, a1, a2, a3, a4, a5⟩ := hI.grow hle
  have hI1 : FeedI h a rest l out fs h1 := ⟨g, rs, a1, a2, a3, a4⟩
  rw [hlaw.1] at hv ⊢
  obtain ⟨sv, rfl, hsv⟩ := hv
  refine sw1 @hsv.one ?_
  cases hfa : fAt s' with
  | none =>
   rw [hfa] at hfc hsv
   simp only at hfc
   have hb := hlaw.2.1 hfa
   by_cases hw : begins s'
   ·have hw2 := hb.2 hw
    rw [if_pos hw] at hfc
    refine sw1 @hw2 ?_
    refine k_meet _ ?_ ⟨s', out, l, fs, hI1, ?_, hl, oM, rfl⟩
    ·try simp only [Pf]
    ·rw [hf, hfc]; simp
   ·have hw2 : (first s').2 = false := by
     cases h2 : (first s').2 with
     | false => rfl
     | true => exact absurd (hb.1 h2) hw
    rw [if_neg hw] at hfc
    refine sw2 @hw2 @hI1.line.rules ?_
    refine hI1.write h00 1 rest (l + 1) rfl rfl oM rfl fun h2 hI2 => ?_
    refine sw0 ?_
    refine k_loop (s'.drop 1, out, l + 1) (by simp only [List.length_drop]; omega) ?_ ⟨fs, hI2, ?_, dM, by simp only [List.length_drop]; omega, by simp only [List.length_drop]; omega⟩
    ·try simp only [Pf]; rw [List.take_of_length_le oM]
    ·rw [hf, hfc]; dsimp only; congr 2; omega
  | some p =>
   obtain ⟨f, k⟩ := p
   have hk := fAt_pos hfa
   have hw2 := hlaw.2.2 (by rw [hfa]; simp)
   rw [hfa] at hfc hsv
   simp only at hfc
   refine sw1 @hw2 ?_
   refine i_cond_f oM ?_
   refine sw1 @hsv.one ?_
   refine i_bslS FrR.enc 3 FrR.enc_len [⟨f.ty, sv, f.warm⟩] (by simp [FrR.enc]) rfl (by simp [maxLen]) fun v1 h2 hle2 ho1 => ?_
   refine sw0 ?_
   refine i_app1 FrR.enc_len (by intro x hx; simp at hx; subst hx; simp [FrR.enc, P8, hsv.one]) (a1.le hle2) (ho1.sl FrR.enc_len) (by rw [a4.1]; simp only [List.length_cons, List.length_nil]; omega) fun v2 h3 ho2 => ?_
   have hI3 := FeedI.add a2 a3 a4 (r := ⟨f.ty, sv, f.warm⟩) (f := f) ⟨rfl, rfl, by simpa using hsv.le a5⟩ ho2
   refine sw0 ?_
   refine k_loop (s'.drop k, v2, l) (by simp only [List.length_drop]; omega) ?_ ⟨fs ++ [f], hI3, ?_, hl, by simp only [List.length_drop]; omega, by simp only [List.length_drop, List.length_append, List.length_cons, List.length_nil]; omega⟩
   ·try simp only [Pf]; rw [List.take_of_length_le oM]
   ·rw [hf, hfc]; simp
theorem F25_ok {N : Num} {Γ : Ctx} [GoodC Γ] (H58 : Sat S58 (Γ 58)) (H59 : Sat S59 (Γ 59)) : Sat S24 (SF N Γ F25) := by
 rintro _ h K ⟨a, rest, lost, s, rfl, ho, hlen, hlost, hK⟩
 have h00 : ∃ o, h a.block = some o := by obtain ⟨_, c, t, h5, _⟩ := ho; exact ⟨_, h5⟩
 refine i_fun rfl ?_
 simp only [F25, Ze, Nat.reduceSub, Nat.reduceAdd]
 refine sw1 @ho.rules ?_
 refine i_meet_blk (fun env h' => ∃ s' out l fs, FeedI h a rest l out fs h' ∧ feed (rest ++ s) = (fs, s', l - lost) ∧ lost ≤ l ∧ l ≤ 2 ^ 61 ∧ env = [some (.pointer (some a)), some (.string (str s')), none, some out, none, none, none, none, none, none, none, none, none, none, none, none, none]) ?_ ?_
 ·rintro env h' ⟨s', out, l, fs, hI, hf, hl, _, rfl⟩
  refine sw0 ?_
  refine hI.write h00 0 s' l rfl rfl oM rfl fun h2 hI2 => ?_
  refine sw0 ?_
  obtain ⟨k1, k2, k3⟩ := hI2.done h00
  rw [hf] at hK
  refine hK out h2 k1 ?_ k3
  dsimp only
  rw [show lost + (l - lost) = l by omega]; exact k2
 ·refine i_loop (fun (p : List UInt8 × Value × Nat) => [some (.pointer (some a)), some (.string (str p.1)), none, some p.2.1, none, none, none, none, none, none, none, none, none, none, none, none, none])
   (fun p h' => ∃ fs, FeedI h a rest p.2.2 p.2.1 fs h' ∧ feed (rest ++ s) = (fs ++ (feed p.1).1, (feed p.1).2.1, p.2.2 - lost + (feed p.1).2.2) ∧ lost ≤ p.2.2 ∧ p.2.2 + p.1.length ≤ lost + 10000000 ∧ fs.length * 4 + p.1.length ≤ 10000000)
   (fun p => p.1.length) (rest ++ s, .slice none 0 0, lost) sE ⟨[], ⟨h, [], OwnS.nil (Heap.le.refl _), ho, keeps.refl _ _ _, by simp [GFrs]⟩, by simp, by simp, by simp; omega, by simp; omega⟩ ?_
  rintro ⟨s', out, l⟩ h' ⟨fs, hI, hf, hl, hb1, hb2⟩
  dsimp only at hI hf hl hb1 hb2
  refine sw0 ?_
  refine i_cond (fun c1 => ?_) (fun c1 => ?_)
  rotate_left
  ·have : s' = [] := List.eq_nil_of_length_eq_zero oM
   subst this
   refine sw0 ?_
   refine k_meet _ ?_ ⟨[], out, l, fs, hI, ?_, hl, oM, rfl⟩
   ·try simp only [Pf]
   ·rw [hf, feed_nil]; simp
  have c1 : s' ≠ [] := by intro e; subst e; simp at c1
  have hfc := feed_cons c1
  have hp : 0 < s'.length := oM
  refine sw0 ?_
  refine i_call H58 ⟨s', rfl, oM, fun v h1 hle hv => ?_⟩
  obtain ⟨g, rs, a1, a2, a3, a4, a5⟩ := hI.grow hle
  have hI1 : FeedI h a rest l out fs h1 := ⟨g, rs, a1, a2, a3, a4⟩
  obtain ⟨sv, rfl, hsv⟩ := hv
  refine sw1 @hsv.one ?_
  cases hfa : fAt s' with
  | none =>
   rw [hfa] at hfc hsv
   simp only at hfc
   refine sw0 ?_
   refine i_call H59 ⟨s', rfl, c1, oM, ?_⟩
   refine sw0 ?_
   refine i_cond (fun hw => ?_) (fun hw => ?_)
   ·rw [if_pos hw] at hfc
    refine sw0 ?_
    refine k_meet _ ?_ ⟨s', out, l, fs, hI1, ?_, hl, oM, rfl⟩
    ·try simp only [Pf]
    ·rw [hf, hfc]; simp
   ·rw [if_neg hw] at hfc
    refine sw1 @hI1.line.rules ?_
    refine hI1.write h00 1 rest (l + 1) rfl rfl oM rfl fun h2 hI2 => ?_
    refine sw0 ?_
    refine k_loop (s'.drop 1, out, l + 1) (by simp only [List.length_drop]; omega) ?_ ⟨fs, hI2, ?_, dM, by simp only [List.length_drop]; omega, by simp only [List.length_drop]; omega⟩
    ·try simp only [Pf]; rw [List.take_of_length_le oM]
    ·rw [hf, hfc]; dsimp only; congr 2; omega
  | some p =>
   obtain ⟨f, k⟩ := p
   have hk := fAt_pos hfa
   rw [hfa] at hfc hsv
   simp only at hfc
   refine sw0 ?_
   refine i_cond_t oM ?_
   refine sw1 @hsv.one ?_
   refine i_bslS FrR.enc 3 FrR.enc_len [⟨f.ty, sv, f.warm⟩] (by simp [FrR.enc]) rfl (by simp [maxLen]) fun v1 h2 hle2 ho1 => ?_
   refine sw0 ?_
   refine i_app1 FrR.enc_len (by intro x hx; simp at hx; subst hx; simp [FrR.enc, P8, hsv.one]) (a1.le hle2) (ho1.sl FrR.enc_len) (by rw [a4.1]; simp only [List.length_cons, List.length_nil]; omega) fun v2 h3 ho2 => ?_
   have hI3 := FeedI.add a2 a3 a4 (r := ⟨f.ty, sv, f.warm⟩) (f := f) ⟨rfl, rfl, by simpa using hsv.le a5⟩ ho2
   refine sw0 ?_
   refine k_loop (s'.drop k, v2, l) (by simp only [List.length_drop]; omega) ?_ ⟨fs ++ [f], hI3, ?_, hl, by simp only [List.length_drop]; omega, by simp only [List.length_drop, List.length_append, List.length_cons, List.length_nil]; omega⟩
   ·try simp only [Pf]; rw [List.take_of_length_le oM]
   ·rw [hf, hfc]; simp
theorem OwnS.pre {α : Type} {enc : α → List Value} {sz : Nat} (he : ∀ x, (enc x).length = sz) {h0 h : Heap} {v : Value} {l l' : List α} (ho : OwnS enc sz h0 h v (l ++ l')) :
  ∃ v', (∀ m m', o3V (.lsl sz) (.v v) (.v (.int m 0)) (.v (.int m' l.length)) = some (.v v')) ∧ Sl enc h v' l := by
 obtain ⟨_, a, cap, rfl, hcap, _, h3⟩ := ho
 rw [List.length_append] at hcap
 refine ⟨.slice (if cap = 0 then a else a.map (·.add (0 * sz))) l.length cap, ?_, ?_⟩
 ·intro m m'
  simp only [o3V]
  rw [if_pos ⟨oM, oM, oM⟩]
  simp
 ·refine ⟨_, cap, rfl, oM, ?_⟩
  rcases h3 with ⟨_, h4, _⟩ | ⟨b, c, t, rfl, _, h5, h6, h7⟩
  ·exact .inl (List.append_eq_nil_iff.1 h4).1
  ·refine .inr ⟨⟨b, 0, none⟩, ?_, rfl, c, t, _, h5, ?_, ?_⟩
   ·simp [Addr.add]
   ·have := flat_len he l
    rw [this, h6]
    have := Nat.mul_le_mul_right sz (show l.length ≤ cap by omega)
    simpa using this
   ·intro i hi
    have := h7 i (by rw [List.flatMap_append, List.length_append]; omega)
    rw [Nat.zero_add, this, List.flatMap_append, List.getElem?_append_left hi]
end Go.Cw
namespace Go.Cw
open Go Go.RowKit
theorem okWide_agg {P : Program} {w : World} {r : Reach} {b0 : Nat} {t : TypeId} {fs : Array Field} {v : Value} (ht : P.underlying t = some (.struct fs)) (h : Value.okWide P w r b0 t v) : ∃ cs, v = .agg cs := by
 unfold Value.okWide at h
 rw [ht] at h
 obtain ⟨cs, h1, _⟩ := h
 exact ⟨cs, h1⟩
end Go.Cw
namespace Go.Cw
open Go
def S106 : Spec := fun args h K => ∃ bn, ∃ n k : Nat, args = [.int .i64 k, .pointer (some ⟨bn, 0, none⟩)] ∧ objAt h ⟨bn, 0, none⟩ [.int .u64 n] ∧ n < 2 ^ 64 ∧ k ≤ 30 ∧ ∀ h', but bn h h' → objAt h' ⟨bn, 0, none⟩ [.int .u64 (n / 2 ^ k : Nat)] → K (.int .i64 (n % 2 ^ k : Nat)) h'
theorem F106_ok {N : Num} {Γ : Ctx} [GoodC Γ] : Sat S106 (SF N Γ F106) := by
 rintro _ h K ⟨bn, n, k, rfl, ho, hn, hk, hK⟩
 refine i_fun rfl ?_
 simp only [F106, Ze, Nat.reduceSub, Nat.reduceAdd]
 have hc : h.cell ⟨bn, 0, none⟩ = some (.int .u64 n) := ho.rules.2.1 (by simp)
 have h2k : 2 ^ k ≤ 2 ^ 30 := Nat.pow_le_pow_right oM hk
 have h2p : 0 < 2 ^ k := Nat.pow_pos oM
 have hsl : binV .shl (.int .u64 1) (.int .i64 (k : Int)) = some (.int .u64 ((2 ^ k : Nat) : Int)) := by
  have := shl_nat .i64 1 k oM oM
  rw [Nat.one_mul] at this; exact this
 have hsub : IntKind.u64.wrap (((2 ^ k : Nat) : Int) - 1) = ((2 ^ k - 1 : Nat) : Int) := by
  rw [show ((2 ^ k : Nat) : Int) - 1 = ((2 ^ k - 1 : Nat) : Int) by omega, wrap_u64 _ oM]
 have han := and_u64 n (2 ^ k - 1) hn oM
 rw [Nat.and_two_pow_sub_one_eq_mod] at han
 have hml : n % 2 ^ k < 2 ^ 30 := Nat.lt_of_lt_of_le (Nat.mod_lt _ h2p) h2k
 have hsr := shr_nat .u64 .i64 n k (by simp [IntKind.bits]; omega)
 refine sw5 @hc @hsl @hsub @han @hsr ?_
 refine i_st ho 0 1 rfl rfl oM (Nat.le_refl 1) fun o hob _ => ?_
 have hob2 : objAt (h.set bn o) ⟨bn, 0, none⟩ [.int .u64 (n / 2 ^ k : Nat)] := hob h rfl
 refine sw0 ?_
 exact hK _ (fun x hx => Heap.set_ne hx) hob2
def S81 (N : Num) : Spec := fun args h K => ∃ b, args = [.string (str b)] ∧ ∀ h', Heap.le h h' → K (.tuple #[tgV b, errV N (if (tagOf b).isSome then 0 else 3)]) h'
theorem num_take {b : List UInt8} {i : Nat} (hi : i < b.length) : num (b.take (i + 1)) = num (b.take i) * 256 + (b.getD i 0).toNat := by rw [take_succ_d 0 hi, num_snoc]
theorem F81_ok {N : Num} {Γ : Ctx} [GoodC Γ] (H106 : Sat S106 (Γ 106)) (H107 : Sat S107 (Γ 107)) (H108 : Sat (S108 N) (Γ 108)) : Sat (S81 N) (SF N Γ F81) := by
 rintro _ h K ⟨b, rfl, hK⟩
 refine i_fun rfl ?_
 simp only [F81, Ze, Nat.reduceSub, Nat.reduceAdd]
 unfold tgV tagOf at hK
 by_cases hlen : b.length = 8
 rotate_left
 ·have hl : ((b.length : Int) ≠ 8) = True := by rw [eq_iff_iff]; simp; omega
  rw [if_pos hlen] at hK
  simp only [Option.getD, Option.isSome, Tg.zero, aggT, Bool.false_eq_true, if_false, errV_succ] at hK
  refine sw1 @hl ?_
  exact hK h (Heap.le.refl h)
 have hl : ((b.length : Int) ≠ 8) = False := by rw [eq_iff_iff]; simp; omega
 rw [if_neg oM] at hK
 refine sw1 @hl ?_
 refine i_newO fun b3 h1 hle1 hb3 ho3 => ?_
 refine sw0 ?_
 refine i_st (ho3.le (fr_le _ _)) 0 1 rfl rfl oM (Nat.le_refl 1) fun o hob _ => ?_
 have hob3 : objAt (h1.set b3 o) ⟨b3, 0, none⟩ [.int .u64 (num (b.take 0) : Nat)] := hob h1 rfl
 have hle2 : Heap.le h (h1.set b3 o) := but.le (b := b3) hle1 hb3 fun x hx => Heap.set_ne hx
 generalize h1.set b3 o = h2 at *
 refine sw0 ?_
 refine i_meet_blk (fun env H => Heap.le h H ∧ objAt H ⟨b3, 0, none⟩ [.int .u64 (num b : Nat)] ∧ env = [some (.string (str b)), some (.agg #[.int .i64 0, .int .i64 0, .int .i64 0, .int .i64 0, .int .i64 0, .int .i64 0]), some .nilIface, some (.pointer (some ⟨b3, 0, none⟩)), none, none, none, none, none, none, none, none, none, none, none, none, none, none, none, none, none, none, none, none, none, none, none, none, none, none, none, none, none, none, none]) ?_ ?_
 rotate_left
 ·refine i_loop (fun i : Nat => [some (.string (str b)), some (.agg #[.int .i64 0, .int .i64 0, .int .i64 0, .int .i64 0, .int .i64 0, .int .i64 0]), some .nilIface, some (.pointer (some ⟨b3, 0, none⟩)), none, none, none, none, none, none, none, some (.int .i64 b.length), some (.int .i64 i), none, none, none, none, none, none, none, none, none, none, none, none, none, none, none, none, none, none, none, none, none, none])
   (fun i H => i ≤ 8 ∧ Heap.le h H ∧ objAt H ⟨b3, 0, none⟩ [.int .u64 (num (b.take i) : Nat)]) (fun i => 8 - i) 0 (by try simp only [Pf]; rfl) ⟨oM, hle2, hob3⟩ ?_
  rintro i H ⟨hi, hle, ho⟩
  have hc : H.cell ⟨b3, 0, none⟩ = some (.int .u64 (num (b.take i) : Nat)) := ho.rules.2.1 (by simp)
  refine sw0 ?_
  refine i_cond (fun c1 => ?_) (fun c1 => ?_)
  rotate_left
  ·have : i = b.length := oM
   subst this
   rw [List.take_length] at ho
   refine sw0 ?_
   exact k_meet _ sE ⟨hle, ho, rfl⟩
  have hi2 : i < b.length := oM
  have hnl := num_lt (b.take i)
  have hnl2 : num (b.take i) < 256 ^ 7 := Nat.lt_of_lt_of_le hnl (Nat.pow_le_pow_right oM (by rw [List.length_take]; omega))
  have hbyte := (b.getD i 0).toNat_lt
  have hsl := shl_nat .u64 (num (b.take i)) 8 oM oM
  have hcv : IntKind.u64.wrap (((b.getD i 0).toNat : Nat) : Int) = (((b.getD i 0).toNat : Nat) : Int) := wrap_u64 _ oM
  have hor := or_u64 (num (b.take i) * 2 ^ 8) (b.getD i 0).toNat oM oM
  have hor2 : num (b.take i) * 2 ^ 8 ||| (b.getD i 0).toNat = num (b.take (i + 1)) := by
   rw [num_take hi2, Nat.mul_comm _ (2 ^ 8), ← Nat.two_pow_add_eq_or_of_lt oM]
  rw [hor2] at hor
  have hsl' : binV .shl (.int .u64 (num (b.take i) : Nat)) (.int .u64 8) = some (.int .u64 ((num (b.take i) * 2 ^ 8 : Nat) : Int)) := hsl
  refine sw4 @hc @hsl' @hcv @hor ?_
  refine i_st ho 0 1 rfl rfl oM (Nat.le_refl 1) fun o2 hob' _ => ?_
  have hob4 : objAt (H.set b3 o2) ⟨b3, 0, none⟩ [.int .u64 (num (b.take (i + 1)) : Nat)] := hob' H rfl
  refine sw0 ?_
  exact k_loop (i + 1) oM sE ⟨oM, but.le (b := b3) hle hb3 fun x hx => Heap.set_ne hx, hob4⟩
 rintro env H ⟨hle, ho, rfl⟩
 have hnlt := num_lt b
 rw [hlen] at hnlt
 generalize num b = n at *
 refine sw0 ?_
 refine i_newO fun b6 h3 hle3 hb6 ho6 => ?_
 have hne : b3 ≠ b6 := by rintro rfl; exact objAt.nn ho hb6
 have ho6' : objAt h3 ⟨b6, 0, none⟩ [.int .i64 0, .int .i64 0, .int .i64 0, .int .i64 0, .int .i64 0, .int .i64 0] := ho6.le (fr_le _ _)
 have hb6h : h b6 = none := le_none hle b6 hb6
 refine sw0 ?_
 refine i_cal H106 ⟨b3, n, 24, rfl, ho.le hle3, oM, oM, fun h4 hbut4 hob4 => ?_⟩
 have hle4 := hbut4.le (hle.trans hle3) hb3
 have ho64 := hbut4.obj (a := ⟨b6, 0, none⟩) (Ne.symm hne) ho6'
 refine sw0 ?_
 refine i_st ho64 5 1 rfl rfl oM (by simp) fun o5 hob5 _ => ?_
 have ho65 : objAt (h4.set b6 o5) ⟨b6, 0, none⟩ [.int .i64 0, .int .i64 0, .int .i64 0, .int .i64 0, .int .i64 0, .int .i64 (n % 2 ^ 24 : Nat)] := hob5 h4 rfl
 have ho35 : objAt (h4.set b6 o5) ⟨b3, 0, none⟩ [.int .u64 (n / 2 ^ 24 : Nat)] := but.obj (b := b6) (fun x hx => Heap.set_ne hx) hne hob4
 have hle5 : Heap.le h (h4.set b6 o5) := but.le (b := b6) hle4 hb6h fun x hx => Heap.set_ne hx
 generalize h4.set b6 o5 = h5 at *
 have hc3 : h5.cell ⟨b3, 0, none⟩ = some (.int .u64 (n / 2 ^ 24 : Nat)) := ho35.rules.2.1 (by simp)
 have hsr := shr_nat .u64 .u64 (n / 2 ^ 24) 26 (by simp [IntKind.bits])
 have e50 : n / 2 ^ 24 / 2 ^ 26 = n / 2 ^ 50 := by rw [Nat.div_div_eq_div_mul, ← Nat.pow_add]
 rw [e50] at hsr
 have hsr' : binV .shr (.int .u64 ((n / 2 ^ 24 : Nat) : Int)) (.int .u64 26) = some (.int .u64 ((n / 2 ^ 50 : Nat) : Int)) := hsr
 have han := and_u64 (n / 2 ^ 50) 7 oM oM
 rw [show (7 : Nat) = 2 ^ 3 - 1 from rfl, Nat.and_two_pow_sub_one_eq_mod] at han
 have han' : binV .and (.int .u64 ((n / 2 ^ 50 : Nat) : Int)) (.int .u64 7) = some (.int .u64 ((n / 2 ^ 50 % 8 : Nat) : Int)) := han
 have hw : IntKind.i64.wrap ((n / 2 ^ 50 % 8 : Nat) : Int) = ((n / 2 ^ 50 % 8 : Nat) : Int) := w64 oM oM
 refine sw4 @hc3 @hsr' @han' @hw ?_
 refine i_call H107 ⟨_, rfl, fun h6 hle6 => ?_⟩
 cases hp : partsOf ((n / 2 ^ 50 % 8 : Nat) : Int) with
 | none =>
  rw [hp] at hK
  simp only [Option.getD, Option.isSome, Tg.zero, aggT, Bool.false_eq_true, if_false, errV_succ] at hK
  simp only [paV, hp, Option.elim]
  refine sw0 ?_
  exact hK h6 (hle5.trans hle6)
 | some a =>
  rw [hp] at hK
  have hpa := partsOf_some hp
  simp only [paV, hp, Option.elim, Pa.enc]
  refine sw0 ?_
  have ho36 := ho35.le hle6
  have ho66 := ho65.le hle6
  have hle6' := hle5.trans hle6
  have hemp : ∀ H, Heap.le (fun _ => none) H := fun H x o hx => by cases hx
  refine i_cal H106 ⟨b3, n / 2 ^ 24, a.rb, rfl, ho36, oM, oM, fun h7 hbut7 hob7 => ?_⟩
  have hle7 := hbut7.le hle6' hb3
  have ho67 := hbut7.obj (a := ⟨b6, 0, none⟩) (Ne.symm hne) ho66
  refine i_lex (fun _ => none) (hemp _) ?_ (le_one (hemp _)) ?_
  ·intro l' hl'
   simp only [List.mem_singleton] at hl'
   subst hl'
   exact ⟨true, rfl, fun _ => ⟨.v (.int .i64 a.cb), by try simp (disch := first | omega | (simp only [PL]; omega)) only [Zr, simprocAttr, -reduceIte]⟩⟩
  have en : n / 2 ^ 24 / 2 ^ a.rb = n / 2 ^ (24 + a.rb) := by rw [Nat.div_div_eq_div_mul, ← Nat.pow_add]
  rw [en] at hob7
  have hnl2 : n / 2 ^ (24 + a.rb) < 2 ^ 64 := Nat.lt_of_le_of_lt (Nat.div_le_self _ _) oM
  refine sw0 ?_
  refine i_cal H106 ⟨b3, n / 2 ^ (24 + a.rb), a.cb, rfl, hob7, hnl2, oM, fun h8 hbut8 hob8 => ?_⟩
  have hle8 := hbut8.le hle7 hb3
  have ho68 := hbut8.obj (a := ⟨b6, 0, none⟩) (Ne.symm hne) ho67
  have en2 : n / 2 ^ (24 + a.rb) / 2 ^ a.cb = n / 2 ^ 50 := by
   rw [Nat.div_div_eq_div_mul, ← Nat.pow_add]
   congr 2; omega
  rw [en2] at hob8
  refine sw0 ?_
  have hcl := Nat.mod_lt (n / 2 ^ (24 + a.rb)) (Nat.pow_pos (n := a.cb) (show 0 < 2 by omega))
  have hcl2 : 2 ^ a.cb ≤ 2 ^ 30 := Nat.pow_le_pow_right oM oM
  have hrl := Nat.mod_lt (n / 2 ^ 24) (Nat.pow_pos (n := a.rb) (show 0 < 2 by omega))
  have hrl2 : 2 ^ a.rb ≤ 2 ^ 30 := Nat.pow_le_pow_right oM oM
  refine i_cal H106 ⟨b3, n / 2 ^ 50, 3, rfl, hob8, oM, oM, fun h9 hbut9 hob9 => ?_⟩
  have hle9 := hbut9.le hle8 hb3
  have ho69 := hbut9.obj (a := ⟨b6, 0, none⟩) (Ne.symm hne) ho68
  have en3 : n / 2 ^ 50 / 2 ^ 3 = n / 2 ^ 53 := by rw [Nat.div_div_eq_div_mul, ← Nat.pow_add]
  rw [en3] at hob9
  refine sw0 ?_
  refine i_cal H106 ⟨b3, n / 2 ^ 53, 3, rfl, hob9, oM, oM, fun h10 hbut10 hob10 => ?_⟩
  have hle10 := hbut10.le hle9 hb3
  have ho610 := hbut10.obj (a := ⟨b6, 0, none⟩) (Ne.symm hne) ho69
  have en4 : n / 2 ^ 53 / 2 ^ 3 = n / 2 ^ 56 := by rw [Nat.div_div_eq_div_mul, ← Nat.pow_add]
  rw [en4] at hob10
  refine sw0 ?_
  refine i_cal H106 ⟨b3, n / 2 ^ 56, 8, rfl, hob10, oM, oM, fun h11 hbut11 hob11 => ?_⟩
  have hle11 := hbut11.le hle10 hb3
  have ho611 := hbut11.obj (a := ⟨b6, 0, none⟩) (Ne.symm hne) ho610
  have en5 : n / 2 ^ 56 % 2 ^ 8 = n / 2 ^ 56 := Nat.mod_eq_of_lt oM
  rw [en5]
  have hk47 : IntKind.i64.wrap (((n / 2 ^ 56 : Nat) : Int) - 47) = ((n / 2 ^ 56 : Nat) : Int) - 47 := by rw [w64 oM oM]
  refine sw1 @hk47 ?_
  refine i_st ho611 4 1 rfl rfl oM (by simp) fun o12 hob12 _ => ?_
  have hobA : objAt (h11.set b6 o12) ⟨b6, 0, none⟩ [.int .i64 0, .int .i64 0, .int .i64 0, .int .i64 0, .int .i64 (n / 2 ^ 24 % 2 ^ a.rb : Nat), .int .i64 (n % 2 ^ 24 : Nat)] := hob12 h11 rfl
  have hle12 : Heap.le h (h11.set b6 o12) := but.le (b := b6) hle11 hb6h fun x hx => Heap.set_ne hx
  generalize h11.set b6 o12 = h12 at *
  refine sw0 ?_
  refine i_st hobA 3 1 rfl rfl oM (by simp) fun o13 hob13 _ => ?_
  have hobB : objAt (h12.set b6 o13) ⟨b6, 0, none⟩ [.int .i64 0, .int .i64 0, .int .i64 0, .int .i64 (n / 2 ^ (24 + a.rb) % 2 ^ a.cb : Nat), .int .i64 (n / 2 ^ 24 % 2 ^ a.rb : Nat), .int .i64 (n % 2 ^ 24 : Nat)] := hob13 h12 rfl
  have hle13 : Heap.le h (h12.set b6 o13) := but.le (b := b6) hle12 hb6h fun x hx => Heap.set_ne hx
  generalize h12.set b6 o13 = h13 at *
  refine sw0 ?_
  refine i_st hobB 2 1 rfl rfl oM (by simp) fun o14 hob14 _ => ?_
  have hobC : objAt (h13.set b6 o14) ⟨b6, 0, none⟩ [.int .i64 0, .int .i64 0, .int .i64 (n / 2 ^ 50 % 2 ^ 3 : Nat), .int .i64 (n / 2 ^ (24 + a.rb) % 2 ^ a.cb : Nat), .int .i64 (n / 2 ^ 24 % 2 ^ a.rb : Nat), .int .i64 (n % 2 ^ 24 : Nat)] := hob14 h13 rfl
  have hle14 : Heap.le h (h13.set b6 o14) := but.le (b := b6) hle13 hb6h fun x hx => Heap.set_ne hx
  generalize h13.set b6 o14 = h14 at *
  refine sw0 ?_
  refine i_st hobC 1 1 rfl rfl oM (by simp) fun o15 hob15 _ => ?_
  have hobD : objAt (h14.set b6 o15) ⟨b6, 0, none⟩ [.int .i64 0, .int .i64 (n / 2 ^ 53 % 2 ^ 3 : Nat), .int .i64 (n / 2 ^ 50 % 2 ^ 3 : Nat), .int .i64 (n / 2 ^ (24 + a.rb) % 2 ^ a.cb : Nat), .int .i64 (n / 2 ^ 24 % 2 ^ a.rb : Nat), .int .i64 (n % 2 ^ 24 : Nat)] := hob15 h14 rfl
  have hle15 : Heap.le h (h14.set b6 o15) := but.le (b := b6) hle14 hb6h fun x hx => Heap.set_ne hx
  generalize h14.set b6 o15 = h15 at *
  refine sw0 ?_
  refine i_st hobD 0 1 rfl rfl oM (by simp) fun o16 hob16 _ => ?_
  have hobE : objAt (h15.set b6 o16) ⟨b6, 0, none⟩ [.int .i64 (((n / 2 ^ 56 : Nat) : Int) - 47), .int .i64 (n / 2 ^ 53 % 2 ^ 3 : Nat), .int .i64 (n / 2 ^ 50 % 2 ^ 3 : Nat), .int .i64 (n / 2 ^ (24 + a.rb) % 2 ^ a.cb : Nat), .int .i64 (n / 2 ^ 24 % 2 ^ a.rb : Nat), .int .i64 (n % 2 ^ 24 : Nat)] := hob16 h15 rfl
  have hle16 : Heap.le h (h15.set b6 o16) := but.le (b := b6) hle15 hb6h fun x hx => Heap.set_ne hx
  generalize h15.set b6 o16 = h16 at *
  have hrowG : ∀ H, Heap.le h16 H → H.row ⟨b6, 0, none⟩ 6 = some #[.int .i64 (((n / 2 ^ 56 : Nat) : Int) - 47), .int .i64 (n / 2 ^ 53 % 2 ^ 3 : Nat), .int .i64 (n / 2 ^ 50 % 2 ^ 3 : Nat), .int .i64 (n / 2 ^ (24 + a.rb) % 2 ^ a.cb : Nat), .int .i64 (n / 2 ^ 24 % 2 ^ a.rb : Nat), .int .i64 (n % 2 ^ 24 : Nat)] := fun H hl => (hobE.le hl).rules.2.2
  have hrow := hrowG h16 (Heap.le.refl h16)
  refine sw1 @hrow ?_
  refine i_call H108 ⟨tagAt n a, rfl, fun h17 hle17 => ?_⟩
  have hrow2 := hrowG h17 hle17
  dsimp only at hK
  by_cases hbad : (tagAt n a).bad
  ·rw [fault_bad hbad]
   simp only [if_pos hbad, Option.getD, Option.isSome, Tg.zero, aggT, Bool.false_eq_true, if_false, errV_succ] at hK ⊢
   refine sw0 ?_
   exact hK h17 (hle16.trans hle17)
  ·rw [fault_ok hbad]
   simp only [if_neg hbad] at hK
   simp only [Option.getD, Option.isSome, aggT, tagAt, if_true, errV_zero] at hK ⊢
   refine sw1 @hrow2 ?_
   exact hK h17 (hle16.trans hle17)
theorem kindOf_some (b : List UInt8) : kindOf b = ((tagOf b).getD Tg.zero).kind := by unfold kindOf; cases tagOf b <;> rfl
def S83 : Spec := fun args h K => ∃ b, args = [.string (str b)] ∧ ∀ h', Heap.le h h' → K (.int .i64 (kindOf b)) h'
theorem F83_ok {N : Num} {Γ : Ctx} [GoodC Γ] (H110 : Sat S110 (Γ 110)) : Sat S83 (SF N Γ F83) := by
 rintro _ h K ⟨b, rfl, hK⟩
 refine i_fun rfl ?_
 simp only [F83, Ze, Nat.reduceSub, Nat.reduceAdd]
 refine sw0 ?_
 refine i_call H110 ⟨b, rfl, fun h1 hle1 => ?_⟩
 have := hK h1 hle1
 rw [kindOf_some] at this
 unfold tgV aggT
 cases ht : tagOf b with
 | none =>
  rw [ht] at this
  simp only [Option.getD, Option.isSome, Tg.zero] at this ⊢
  refine sw0 ?_
  exact this
 | some t =>
  rw [ht] at this
  simp only [Option.getD, Option.isSome] at this ⊢
  refine sw0 ?_
  exact this
def S66 : Spec := S83
theorem F66_ok {N : Num} {Γ : Ctx} [GoodC Γ] (H81 : Sat (S81 N) (Γ 81)) : Sat S66 (SF N Γ F66) := by
 rintro _ h K ⟨b, rfl, hK⟩
 refine i_fun rfl ?_
 simp only [F66, Ze, Nat.reduceSub, Nat.reduceAdd]
 refine sw0 ?_
 refine i_call H81 ⟨b, rfl, fun h1 hle1 => ?_⟩
 have := hK h1 hle1
 rw [kindOf_some] at this
 unfold tgV aggT
 cases ht : tagOf b with
 | none =>
  rw [ht] at this
  simp only [Option.getD, Option.isSome, Tg.zero, Bool.false_eq_true, if_false, errV_succ] at this ⊢
  refine sw0 ?_
  exact this
 | some t =>
  rw [ht] at this
  simp only [Option.getD, Option.isSome, if_true, errV_zero] at this ⊢
  refine sw0 ?_
  exact this
def encBl (b : Bool) : List Value := [.bool b]
def bitsN (n k : Nat) : List Bool := (List.range k).map fun i => decide (n / 2 ^ (k - 1 - i) % 2 = 1)
theorem bitsN_len (n k : Nat) : (bitsN n k).length = k := by simp [bitsN]
theorem bitsN_get (n k i : Nat) (hi : i < k) : (bitsN n k).getD i false = decide (n / 2 ^ (k - 1 - i) % 2 = 1) := by
 simp [bitsN, List.getD, hi]
theorem and_one_i64 (x : Nat) (hx : x < 2 ^ 63) : binV .and (.int .i64 (x : Int)) (.int .i64 1) = some (.int .i64 ((x % 2 : Nat) : Int)) := by
 have hb : (BitVec.ofInt IntKind.i64.bits (x : Int) &&& BitVec.ofInt IntKind.i64.bits (1 : Int)).toNat = x % 2 := by
  rw [BitVec.toNat_and, bits_nat IntKind.i64.bits x (by simp [IntKind.bits]; omega), show (1 : Int) = ((1 : Nat) : Int) from rfl, bits_nat IntKind.i64.bits 1 (by simp [IntKind.bits]), Nat.and_one_is_mod]
 simp only [binV, intV, if_true]
 rw [hb, w64 oM oM]
def S80 : Spec := fun args h K => ∃ h0 v l, ∃ n many : Nat, args = [v, .int .i64 n, .int .i64 many] ∧ OwnS encBl 1 h0 h v l ∧ n < 2 ^ 63 ∧ many ≤ 60 ∧ l.length ≤ 1000 ∧
 ∀ v' h', OwnS encBl 1 h0 h' v' (l ++ bitsN n many) → K v' h'
theorem F80_ok {N : Num} {Γ : Ctx} [GoodC Γ] : Sat S80 (SF N Γ F80) := by
 rintro _ h K ⟨h0, v, l, n, many, rfl, hv, hn, hm, hl, hK⟩
 refine i_fun rfl ?_
 simp only [F80, Ze, Nat.reduceSub, Nat.reduceAdd]
 refine sw0 ?_
 refine i_loop (fun s : Nat × Value => [some s.2, some (.int .i64 n), some (.int .i64 many), none, some (.int .i64 ((many : Int) - 1 - s.1)), none, none, none, none])
  (fun s h1 => s.1 ≤ many ∧ OwnS encBl 1 h0 h1 s.2 (l ++ (bitsN n many).take s.1)) (fun s => many - s.1) (0, v) (by try simp only [Pf]; simp; rw [w64 oM oM]) ⟨dM, by simpa using hv⟩ ?_
 rintro ⟨j, v1⟩ h1 ⟨hj, ho⟩
 dsimp only at hj ho ⊢
 refine sw0 ?_
 refine i_cond (fun c => ?_) (fun c => ?_)
 ·have hj2 : j < many := oM
  have hi : ((many : Int) - 1 - j) = ((many - 1 - j : Nat) : Int) := oM
  have hsr := shr_nat .i64 .i64 n (many - 1 - j) (by simp [IntKind.bits]; omega)
  have han := and_one_i64 (n / 2 ^ (many - 1 - j)) (Nat.lt_of_le_of_lt (Nat.div_le_self _ _) hn)
  rw [← hi] at hsr
  refine sw2 @hsr @han ?_
  refine i_bslB encBl 1 (fun _ => rfl) [decide (n / 2 ^ (many - 1 - j) % 2 = 1)] ?_ rfl (by simp [maxLen]) fun x1 b1 h2 hle2 hb1 hx1 hS1 => ?_
  ·simp only [encBl, List.flatMap_cons, List.flatMap_nil, List.append_nil]
   have : (((n / 2 ^ (many - 1 - j) % 2 : Nat) : Int) = 1) = (n / 2 ^ (many - 1 - j) % 2 = 1) := by rw [eq_iff_iff]; omega
   simp only [this]
  have O2 := hS1.one
  refine sw2 O2.1 O2.2 ?_
  refine i_app1 (enc := encBl) (fun _ => rfl) (l' := [decide (n / 2 ^ (many - 1 - j) % 2 = 1)]) (by simp [encBl, one]) (ho.le hle2) (SlB.sl (enc := encBl) (fun _ => rfl) (hS1.le (fr_le _ _))) (by simp [bitsN_len]; omega) fun v2 h3 ho3 => ?_
  have hw : IntKind.i64.wrap ((many : Int) - 1 - j - 1) = (many : Int) - 1 - ((j + 1 : Nat) : Int) := by rw [w64 oM oM]; omega
  refine sw1 @hw ?_
  refine k_loop (j + 1, v2) dM (by dsimp only; try simp only [Pf]) ⟨dM, ?_⟩
  rw [take_succ_d false (by rw [bitsN_len]; exact hj2), bitsN_get _ _ _ hj2, ← List.append_assoc]
  exact ho3
 ·have : j = many := oM
  subst this
  rw [List.take_of_length_le (by rw [bitsN_len]; omega)] at ho
  refine sw0 ?_
  exact hK _ _ ho
def valB (l : List Bool) : Nat := l.foldl (fun a x => 2 * a + x.toNat) 0
theorem valB_snoc (l : List Bool) (x : Bool) : valB (l ++ [x]) = 2 * valB l + x.toNat := by simp [valB]
theorem valB_lt (l : List Bool) : valB l < 2 ^ l.length := by
 induction l using snoc_ind with
 | h0 => simp [valB]
 | hs l x ih => rw [valB_snoc, List.length_append, List.length_singleton, Nat.pow_succ]; have := Bool.toNat_lt x; omega
def tagBits (t : Tg) (a : Pa) : List Bool := bitsN (47 + t.kind).toNat 8 ++ bitsN t.filter.toNat 3 ++ bitsN t.part.toNat 3 ++ bitsN t.company.toNat a.cb ++ bitsN t.ref.toNat a.rb ++ bitsN t.serial.toNat 24
theorem tagBits_len (t : Tg) {a : Pa} (h : partsOf t.part = some a) : (tagBits t a).length = 64 := by
 have := partsOf_some h
 simp only [tagBits, List.length_append, bitsN_len]; omega
def packB (B : List Bool) : List UInt8 := (List.range 8).map fun i => UInt8.ofNat (valB ((B.drop (8 * i)).take 8))
theorem packB_len (B : List Bool) : (packB B).length = 8 := by simp [packB]
theorem packB_get (B : List Bool) {i : Nat} (hi : i < 8) : (packB B).getD i 0 = UInt8.ofNat (valB ((B.drop (8 * i)).take 8)) := by simp [packB, List.getD, hi]
def bytesOf (t : Tg) : List UInt8 := packB (tagBits t ((partsOf t.part).getD default))
def S65 : Spec := fun args h K => ∃ t a, args = [aggT t] ∧ partsOf t.part = some a ∧ 0 ≤ 47 + t.kind ∧ t.kind < 2 ^ 62 ∧ 0 ≤ t.filter ∧ t.filter < 2 ^ 62 ∧ 0 ≤ t.company ∧ t.company < 2 ^ 62 ∧ 0 ≤ t.ref ∧ t.ref < 2 ^ 62 ∧ 0 ≤ t.serial ∧ t.serial < 2 ^ 62 ∧ ∀ h', Heap.le h h' → K (.string (str (bytesOf t))) h'
theorem F65_ok {N : Num} {Γ : Ctx} [GoodC Γ] (H79 : Sat S79 (Γ 79)) (H80 : Sat S80 (Γ 80)) : Sat S65 (SF N Γ F65) := by
 rintro _ h K ⟨t, a, rfl, hp, k1, k2, f1, f2, c1, c2, r1, r2, s1, s2, hK⟩
 have hpa := partsOf_some hp
 have hp6 : 0 ≤ t.part ∧ t.part < 6 := by
  refine Classical.byContradiction fun hc => ?_
  rw [partsOf_none.2 oM] at hp; cases hp
 unfold bytesOf at hK
 rw [hp] at hK
 have hBl := tagBits_len t hp
 simp only [Option.getD] at hK
 refine i_fun rfl ?_
 simp only [F65, Ze, Nat.reduceSub, Nat.reduceAdd, aggT]
 refine sw0 ?_
 refine i_call H79 ⟨t.part, rfl, ?_⟩
 simp only [paV, hp, Option.elim, Pa.enc]
 refine sw0 ?_
 refine i_newO fun b3 h1 hle1 hb3 ho3 => ?_
 refine sw0 ?_
 refine i_st (ho3.le (fr_le h h1)) 0 4 rfl rfl oM (Nat.le_refl 4) fun o hob _ => ?_
 have hob2 : objAt (h1.set b3 o) ⟨b3, 0, none⟩ [.int .i64 a.cb, .int .i64 a.cd, .int .i64 a.rb, .int .i64 a.rd] := hob h1 rfl
 have hle2 : Heap.le h (h1.set b3 o) := but.le (b := b3) hle1 hb3 fun x hx => Heap.set_ne hx
 generalize h1.set b3 o = h2 at *
 have B0 := fun H (hl : Heap.le h2 H) => ((hob2.le hl).rules.2.1 (by simp) : H.cell ⟨b3, 0, none⟩ = some (.int .i64 a.cb))
 have B2 := fun H (hl : Heap.le h2 H) => ((hob2.le hl).rules.1 2 (by simp) : H.cell ((⟨b3, 0, none⟩ : Addr).add 2) = some (.int .i64 a.rb))
 have haa0 : ∀ h (k : IntKind), o2V h (.aadr 4 1) (.v (.pointer (some ⟨b3, 0, none⟩))) (.v (.int k 0)) = some (.v (.pointer (some ⟨b3, 0, none⟩))) := fun h k => rfl
 have haa2 : ∀ h (k : IntKind), o2V h (.aadr 4 1) (.v (.pointer (some ⟨b3, 0, none⟩))) (.v (.int k 2)) = some (.v (.pointer (some ((⟨b3, 0, none⟩ : Addr).add 2)))) := fun h k => rfl
 obtain ⟨kn, hkn⟩ : ∃ n : Nat, 47 + t.kind = n := ⟨(47 + t.kind).toNat, oM⟩
 obtain ⟨fn, hfn⟩ : ∃ n : Nat, t.filter = n := ⟨t.filter.toNat, oM⟩
 obtain ⟨pn, hpn⟩ : ∃ n : Nat, t.part = n := ⟨t.part.toNat, oM⟩
 obtain ⟨cn, hcn⟩ : ∃ n : Nat, t.company = n := ⟨t.company.toNat, oM⟩
 obtain ⟨rn, hrn⟩ : ∃ n : Nat, t.ref = n := ⟨t.ref.toNat, oM⟩
 obtain ⟨sn, hsn⟩ : ∃ n : Nat, t.serial = n := ⟨t.serial.toNat, oM⟩
 have hB : tagBits t a = bitsN kn 8 ++ bitsN fn 3 ++ bitsN pn 3 ++ bitsN cn a.cb ++ bitsN rn a.rb ++ bitsN sn 24 := by
  simp only [tagBits, hkn, hfn, hpn, hcn, hrn, hsn, Int.toNat_natCast]
 have hkw : IntKind.i64.wrap (47 + t.kind) = (kn : Int) := by rw [w64 oM oM, hkn]
 generalize hBg : tagBits t a = B at *
 rw [hfn, hpn, hcn, hrn, hsn]
 refine sw1 @hkw ?_
 refine i_call H80 ⟨h2, .slice none 0 0, [], kn, 8, rfl, OwnS.nil (Heap.le.refl h2), oM, oM, by simp, fun v4 h4 ho4 => ?_⟩
 rw [List.nil_append] at ho4
 refine sw0 ?_
 refine i_call H80 ⟨h2, v4, _, fn, 3, rfl, ho4, oM, oM, by simp [bitsN_len], fun v5 h5 ho5 => ?_⟩
 refine sw0 ?_
 refine i_call H80 ⟨h2, v5, _, pn, 3, rfl, ho5, oM, oM, by simp [bitsN_len], fun v6 h6 ho6 => ?_⟩
 have B06 := B0 h6 ho6.1
 refine sw2 @haa0 @B06 ?_
 refine i_call H80 ⟨h2, v6, _, cn, a.cb, rfl, ho6, oM, oM, by simp [bitsN_len], fun v7 h7 ho7 => ?_⟩
 have B27 := B2 h7 ho7.1
 refine sw2 @haa2 @B27 ?_
 refine i_call H80 ⟨h2, v7, _, rn, a.rb, rfl, ho7, oM, oM, by simp [bitsN_len]; omega, fun v8 h8 ho8 => ?_⟩
 refine sw0 ?_
 refine i_call H80 ⟨h2, v8, _, sn, 24, rfl, ho8, oM, oM, by simp [bitsN_len]; omega, fun v9 h9 ho9 => ?_⟩
 rw [← hB] at ho9
 have hS9 := ho9.sl (enc := encBl) (fun _ => rfl)
 have hle9 := hle2.trans ho9.1
 clear ho4 ho5 ho6 ho7 ho8 ho9 B06 B27 hB
 refine sw0 ?_
 refine i_loop (fun s : Nat × Value => [some (.agg #[.int .i64 t.kind, .int .i64 fn, .int .i64 pn, .int .i64 cn, .int .i64 rn, .int .i64 sn]), none, some (.string (str [])), some (.pointer (some ⟨b3, 0, none⟩)), some v9, some s.2, some (.int .i64 s.1), none, none, none, none, none, none, none, none, none, none, none, none, none, none, none, none, none])
  (fun s H => s.1 ≤ 8 ∧ OwnS encB 1 h9 H s.2 ((packB B).take s.1)) (fun s => 8 - s.1) (0, .slice none 0 0) (by try simp only [Pf]; rfl) ⟨dM, OwnS.nil (Heap.le.refl h9)⟩ ?_
 rintro ⟨i, v⟩ H ⟨hi, ho⟩
 dsimp only at hi ho ⊢
 have R9 := (hS9.le ho.1).rules1 (fun b => .bool b) (fun _ => rfl) false
 rw [hBl] at R9
 refine sw0 ?_
 refine i_cond (fun c => ?_) (fun c => ?_)
 rotate_left
 ·have : i = 8 := oM
  subst this
  rw [List.take_of_length_le (by rw [packB_len]; omega)] at ho
  refine sw1 ((ho.sl encB_len).b2s) ?_
  exact hK H (hle9.trans ho.1)
 have hi2 : i < 8 := oM
 refine sw0 ?_
 refine i_loop (fun k : Nat => [some (.agg #[.int .i64 t.kind, .int .i64 fn, .int .i64 pn, .int .i64 cn, .int .i64 rn, .int .i64 sn]), none, some (.string (str [])), some (.pointer (some ⟨b3, 0, none⟩)), some v9, some v, some (.int .i64 i), some (.int .i64 (valB ((B.drop (8 * i)).take k) : Nat)), some (.int .i64 k), none, none, none, none, none, none, none, none, none, none, none, none, none, none, none])
  (fun k H2 => H2 = H ∧ k ≤ 8) (fun k => 8 - k) 0 (by try simp only [Pf]; exact ⟨rfl, rfl⟩) ⟨rfl, oM⟩ ?_
 rintro k H2 ⟨rfl, hk⟩
 have hvl := valB_lt ((B.drop (8 * i)).take k)
 have hvl2 : valB ((B.drop (8 * i)).take k) < 2 ^ 8 := Nat.lt_of_lt_of_le hvl (Nat.pow_le_pow_right oM (by rw [List.length_take]; omega))
 refine sw0 ?_
 refine i_cond (fun c2 => ?_) (fun c2 => ?_)
 ·have hk2 : k < 8 := oM
  have hidx : IntKind.i64.wrap (IntKind.i64.wrap (8 * (i : Int)) + (k : Int)) = ((8 * i + k : Nat) : Int) := by rw [w64 (n := 8 * (i : Int)) oM oM, w64 oM oM]; omega
  have hnx : valB ((B.drop (8 * i)).take (k + 1)) = 2 * valB ((B.drop (8 * i)).take k) + (B.getD (8 * i + k) false).toNat := by
   rw [take_succ_d false (by rw [List.length_drop]; omega), valB_snoc]
   simp [List.getD, List.getElem?_drop]
  have hw2 : IntKind.i64.wrap (2 * (valB ((B.drop (8 * i)).take k) : Int)) = ((2 * valB ((B.drop (8 * i)).take k) : Nat) : Int) := by rw [w64 oM oM]; omega
  refine sw3 @hidx @R9 @hw2 ?_
  cases hbit : B.getD (8 * i + k) false with
  | true =>
   rw [hbit] at hnx
   have hw3 : IntKind.i64.wrap (((2 * valB ((B.drop (8 * i)).take k) : Nat) : Int) + 1) = ((valB ((B.drop (8 * i)).take (k + 1)) : Nat) : Int) := by rw [hnx, w64 oM oM]; simp
   refine sw1 @hw3 ?_
   exact k_loop (k + 1) oM sE ⟨rfl, oM⟩
  | false =>
   rw [hbit] at hnx
   have hw3 : ((2 * valB ((B.drop (8 * i)).take k) : Nat) : Int) = ((valB ((B.drop (8 * i)).take (k + 1)) : Nat) : Int) := by rw [hnx]; simp
   rw [hw3]
   refine sw0 ?_
   exact k_loop (k + 1) oM sE ⟨rfl, oM⟩
 ·have : k = 8 := oM
  subst this
  generalize hx : valB ((B.drop (8 * i)).take 8) = x at *
  have hb8 : (UInt8.ofNat x).toNat = x := by simp; omega
  have hcv : IntKind.u8.wrap ((x : Nat) : Int) = (((UInt8.ofNat x).toNat : Nat) : Int) := by rw [hb8, w8']; omega
  refine sw1 @hcv ?_
  refine i_bslB encB 1 encB_len [UInt8.ofNat x] rfl rfl (by simp [maxLen]) fun x1 b1 h2' hle2' hb1 hx1 hS1 => ?_
  have O2 := hS1.one
  refine sw2 O2.1 O2.2 ?_
  refine i_app1 (enc := encB) encB_len (l' := [UInt8.ofNat x]) (by simp [encB, one]) (ho.le hle2') (SlB.sl encB_len (hS1.le (fr_le _ _))) (by simp [packB_len]; omega) fun v2 h3 ho3 => ?_
  refine sw0 ?_
  refine k_loop (i + 1, v2) dM (by dsimp only; try simp only [Pf]) ⟨dM, ?_⟩
  dsimp only
  rw [take_succ_d 0 (by rw [packB_len]; omega), packB_get _ hi2, hx]
  exact ho3
theorem OwnS.lsl0 {α : Type} {enc : α → List Value} {sz : Nat} (he : ∀ x, (enc x).length = sz) {h0 h : Heap} {v : Value} {l : List α} {z : α} (ho : OwnS enc sz h0 h v (l ++ [z])) :
  ∃ v', (∀ k k', o3V (.lsl sz) (.v v) (.v (.int k 0)) (.v (.int k' (l.length : Int))) = some (.v v')) ∧ (∀ n, elt v' n = elt v n) ∧
   ∀ h1 h' (l' : List α), l'.length = l.length → OwnS enc sz h1 h' v (l' ++ [z]) → Sl enc h' v' l' := by
 obtain ⟨_, a, cap, rfl, h2, h3, h4⟩ := ho
 rcases h4 with ⟨_, e, _⟩ | ⟨b, c, t, rfl, hb0, hb, hcs, hc⟩
 ·simp at e
 simp only [List.length_append, List.length_singleton] at h2
 refine ⟨.slice (some ⟨b, 0, none⟩) l.length cap, fun k k' => ?_, fun n => rfl, fun h1 h' l' hl ho' => ?_⟩
 ·simp only [o3V]
  rw [if_pos ⟨oM, oM, oM⟩, if_neg (by simp; omega)]
  simp [addr_zero]
 ·obtain ⟨a', cap', e1, _, hr⟩ := ho'.sl he
  simp only [Value.slice.injEq] at e1
  obtain ⟨rfl, _, rfl⟩ := e1
  refine ⟨_, cap, by rw [hl], oM, ?_⟩
  rcases hr with e | ⟨g, hg, hrow⟩
  ·simp at e
  ·refine .inr ⟨g, hg, ?_⟩
   obtain ⟨r1, c', t', fz, r2, r3, r4⟩ := hrow
   rw [List.flatMap_append, List.length_append] at r3
   refine ⟨r1, c', t', fz, r2, oM, fun i hi => ?_⟩
   rw [r4 i (by rw [List.flatMap_append, List.length_append]; omega), List.flatMap_append, List.getElem?_append_left hi]
def isGood (l : List Si) : Prop := ∀ s ∈ l, ¬ s.bad
instance (l : List Si) : Decidable (isGood l) := by unfold isGood; infer_instance
def x1 : Si := ⟨3, 0, 0, [120]⟩
def rfA (N : Num) (Γ : Ctx) (body : St) (Q2 : SE → Env → Heap → Prop) : SE → Env → Heap → Prop := fun x env G => match x with
 | .normal => SW N Γ body Q2 env G
 | _ => False
def rfB (J : Heap → Prop) (Q : SE → Env → Heap → Prop) (env0 : Env) : SE → Env → Heap → Prop := fun y _ G => match y with
 | .normal => J G
 | y => Q y env0 G
@[congr] theorem rfA_congr {N : Num} {Γ : Ctx} {body : St} {Q2 : SE → Env → Heap → Prop} {x : SE} {env env' : Env} {G : Heap} (e : env = env') : rfA N Γ body Q2 x env G = rfA N Γ body Q2 x env' G := by rw [e]
@[congr] theorem rfB_congr {J : Heap → Prop} {Q : SE → Env → Heap → Prop} {env0 : Env} {x : SE} {env env' : Env} {G : Heap} (_e : env = env') : rfB J Q env0 x env G = rfB J Q env0 x env' G := by rw [_e]
theorem rf_rules : (∀ (N : Num) (Γ : Ctx) body Q2 env G, rfA N Γ body Q2 .normal env G = SW N Γ body Q2 env G) ∧ (∀ J Q env0 env G, rfB J Q env0 .normal env G = J G) ∧ (∀ J Q env0 env G, rfB J Q env0 .ret env G = Q .ret env0 G) ∧ (∀ J Q env0 i env G, rfB J Q env0 (.exit i) env G = Q (.exit i) env0 G) := ⟨fun _ _ _ _ _ _ => rfl, fun _ _ _ _ _ => rfl, fun _ _ _ _ _ => rfl, fun _ _ _ _ _ _ => rfl⟩
instance {N : Num} {Γ : Ctx} [GoodC Γ] {body : St} {Q2 : SE → Env → Heap → Prop} [MonoQ Q2] : MonoQ (rfA N Γ body Q2) where
  up := by
    intro e env env' h hl hx
    cases e with
    | normal => exact SW_mono GoodC.imp body (fun hl hx => MonoQ.up hl hx) hl hx
    | exit i => exact hx
    | ret => exact hx
instance {J : Heap → Prop} {Q : SE → Env → Heap → Prop} {env0 : Env} : MonoQ (rfB J Q env0) where
  up := by
    intro e env env' h hl hx
    cases e with
    | normal => exact hx
    | exit i => exact hx
    | ret => exact hx
section
variable {κ ν : Type}
theorem MapB.uniq {ek : κ → Value} {ev : ν → Value} {g g' : Heap} {m : Nat} {kv : List (κ × ν)} {bs : List Nat} {ck : Nat} (h : MapB ek ev g m kv bs ck) (h' : MapB ek ev g' m kv bs ck) : g m = g' m := by
 obtain ⟨es, h1, h2, _⟩ := h
 obtain ⟨es', h1', h2', _⟩ := h'
 have : es = es' := by apply Array.toList_inj.1; rw [h2, h2']
 rw [h1, h1', this]
theorem i_rfn {N : Num} {Γ : Ctx} [GoodC Γ] {k off i ip : Nat} {asg body : St} {ek : κ → Value} {ev : ν → Value} {env : Env} {H : Heap} {c a : Addr} {mp : Nat} {kv : List (κ × ν)} {bs : List Nat} {ck : Nat} {Q : SE → Env → Heap → Prop}
  (hf : env.get i = some (.func (.func (N.fid k)) #[] #[.pointer (some c)])) (hc : H.cell c = some (.pointer (some a))) (hm : H.cell (a.add off) = some (.map (some mp))) (J : List Nat → Heap → Prop) (h0 : J [] H) (hmap : ∀ dn G, J dn G → MapB ek ev G mp kv bs ck)
  (hend : ∀ dn G, J dn G → dn.Nodup → (∀ b ∈ dn, b ∈ bs) → (∀ b ∈ bs, b ∈ dn) → Q .normal env G)
  (hround : ∀ (dn : List Nat) (G : Heap) (j b : Nat) (key : κ) (val : ν), J dn G → dn.Nodup → (∀ b ∈ dn, b ∈ bs) → kv[j]? = some (key, val) → bs[j]? = some b → b ∉ dn → SW N Γ asg (rfA N Γ body (rfB (J (dn ++ [b])) Q env)) (env.put ip (ek key)) G) :
  SW N Γ (.rfn k off i ip asg body) Q env H := by
 obtain ⟨es, h1, h2, h3, h4, h5, h6⟩ := hmap [] H h0
 have hmem : ∀ e ∈ es.toList, ∃ (i : Nat) (k : κ) (v : ν) (b : Nat), kv[i]? = some (k, v) ∧ bs[i]? = some b ∧ e = mkE ek ev (k, v) b := by
  intro e he
  rw [h2] at he
  obtain ⟨i, hi, rfl⟩ := List.getElem_of_mem he
  simp only [List.length_zipWith] at hi
  have hi1 : i < kv.length := oM
  have hi2 : i < bs.length := oM
  exact ⟨i, kv[i].1, kv[i].2, bs[i], by simp [hi1], by simp [hi2], by simp⟩
 have hback : ∀ b ∈ bs, ∃ e ∈ es.toList, e.born = b := by
  intro b hb
  obtain ⟨i, hi, rfl⟩ := List.getElem_of_mem hb
  have hi1 : i < kv.length := oM
  refine ⟨mkE ek ev kv[i] bs[i], ?_, rfl⟩
  rw [h2]
  have hlen : i < (List.zipWith (mkE ek ev) kv bs).length := by simp; omega
  have e : (List.zipWith (mkE ek ev) kv bs)[i] = mkE ek ev kv[i] bs[i] := by simp
  rw [← e]; exact List.getElem_mem hlen
 refine ⟨c, a, mp, es, ck, hf, hc, hm, h1, fun e he => ?_, fun dn G => J dn G ∧ dn.Nodup ∧ ∀ b ∈ dn, b ∈ bs, ⟨h0, List.nodup_nil, by simp⟩, ?_⟩
 ·obtain ⟨i, k, v, b, a1, a2, rfl⟩ := hmem e he
  exact h5 _ (List.mem_of_getElem? a2)
 ·rintro dn G ⟨hj, hnd, hsub⟩
  refine ⟨(MapB.uniq (hmap dn G hj) (hmap [] H h0)).trans h1, fun hall => hend dn G hj hnd hsub fun b hb => ?_, fun e he hne => ?_⟩
  ·obtain ⟨e, he, rfl⟩ := hback b hb
   exact hall e he
  ·obtain ⟨i, key, v, b, a1, a2, rfl⟩ := hmem e he
   have hr := hround dn G i b key v hj hnd hsub a1 a2 hne
   have hJ : ∀ G', J (dn ++ [b]) G' → J (dn ++ [b]) G' ∧ (dn ++ [b]).Nodup ∧ ∀ x ∈ dn ++ [b], x ∈ bs := by
    intro G' hj'
    refine ⟨hj', List.nodup_append.2 ⟨hnd, by simp, fun x hx y hy e => ?_⟩, fun x hx => ?_⟩
    ·simp at hy; subst hy; subst e; exact hne hx
    ·rw [List.mem_append, List.mem_singleton] at hx
     rcases hx with hx | rfl
     ·exact hsub x hx
     ·exact List.mem_of_getElem? a2
   refine SW_mono GoodC.imp asg (fun {x e e' G1} hl hx => ?_) (ele_refl _) hr
   cases x with
   | normal =>
    refine SW_mono GoodC.imp body (fun {y f f' G2} hl hy => ?_) hl hx
    cases y with
    | normal => exact hJ _ hy
    | exit i => exact hy
    | ret => exact hy
   | exit i => exact hx
   | ret => exact hx
end
end Go.Cw
namespace Go.Cw
open Go
def S54 (N : Num) : Spec := fun args h K => ∃ a, args = [.pointer (some a)] ∧ ∀ b h', Heap.le h h' → objAt (fr h h') ⟨b, 0, none⟩ [.pointer (some a)] → K (.func (.func (N.fid 71)) #[] #[.pointer (some ⟨b, 0, none⟩)]) h'
theorem F54_ok {N : Num} {Γ : Ctx} [GoodC Γ] : Sat (S54 N) (SF N Γ F54) := by
 rintro _ h K ⟨a, rfl, hK⟩
 refine i_fun rfl ?_
 simp only [F54, Ze, Nat.reduceSub, Nat.reduceAdd]
 refine sw0 ?_
 refine i_newO fun b h1 hle1 hb ho => ?_
 refine sw0 ?_
 exact hK b h1 hle1 ho
theorem TrO.keys {g : Heap} {b window need : Nat} {E : List (List Si)} (hT : TrO g b window need E) : ∃ mw wkv bs ck, (∀ h, Heap.le g h → h.cell ((⟨b, 0, none⟩ : Addr).add 3) = some (.map (some mw))) ∧ MapB encKS id g mw wkv bs ck ∧
  (wkv.map (·.1)).Nodup ∧ ∀ tag, tag ∈ wkv.map (·.1) ↔ toldE E tag := by
 obtain ⟨W, ev, mw, wkv, bs, ck, gi, ems, hT, hW⟩ := hT
 refine ⟨mw, wkv, bs, ck, fun h hl => (objAt.le hT.obj hl).rules.1 3 (by simp), hT.wm, ?_, fun tag => ?_⟩
 ·obtain ⟨_, _, _, _, _, _, h⟩ := hT.wm; exact h
 ·have h1 := hW tag
  constructor
  ·intro hm
   cases hl : look wkv tag with
   | none => exact absurd hm (look_none hl)
   | some v =>
    obtain ⟨l, x, q1, _⟩ := hT.wsome tag v hl (by simp)
    refine Classical.byContradiction fun h3 => ?_
    rw [if_neg h3, q1] at h1; cases h1
  ·intro ht
   cases hl : look wkv tag with
   | none => rw [hT.wnone tag hl, if_pos ht] at h1; cases h1
   | some v => exact List.mem_map.2 ⟨_, look_mem hl, rfl⟩
section
variable (w n : Nat) (E : List (List Si))
def atF (e : Nat) (t : List UInt8) : Int := atE w n (E.take (e + 1)) t
def tog1 (a b : List UInt8) (e : Nat) : Nat := if 0 ≤ atF w n E e a ∧ atF w n E e a = atF w n E e b then 1 else 0
def togN (a b : List UInt8) (lo : Nat) : Nat → Nat
 | 0 => 0
 | m + 1 => togN a b lo m + if lo ≤ m then tog1 w n E a b m else 0
def togE (span : Nat) (a b : List UInt8) (e : Nat) : Nat := togN w n E a b (e + 1 - span) (e + 1)
def cand (s p : List UInt8) : Prop := 0 < kindOf s ∧ kindOf s < kindOf p
def IsPar (span score e : Nat) (s was r : List UInt8) : Prop :=
 (r = [] ∧ ∀ p, cand s p → togE w n E span s p e < score) ∨
 (∃ M, score ≤ M ∧ cand s r ∧ togE w n E span s r e = M ∧ (∀ p, cand s p → togE w n E span s p e ≤ M) ∧
  (r = was ∨ (¬ (cand s was ∧ togE w n E span s was e = M) ∧ ∀ p, cand s p → togE w n E span s p e = M → p = r ∨ Op.bytesLess r p = true)))
noncomputable def eps (P : List UInt8 → Prop) : List UInt8 := Classical.epsilon P
noncomputable def parE (span score : Nat) (s : List UInt8) : Nat → List UInt8
 | 0 => eps (IsPar w n E span score 0 s [])
 | e + 1 => eps (IsPar w n E span score (e + 1) s (parE span score s e))
noncomputable def wasE (span score : Nat) (s : List UInt8) : Nat → List UInt8
 | 0 => []
 | e + 1 => parE w n E span score s e
end
theorem parE_eq {w n : Nat} {E : List (List Si)} {span score : Nat} {s : List UInt8} (e : Nat) : parE w n E span score s e = eps (IsPar w n E span score e s (wasE w n E span score s e)) := by cases e <;> rfl
theorem IsPar.uniq {w n : Nat} {E : List (List Si)} {span score e : Nat} {s was r r' : List UInt8} (h : IsPar w n E span score e s was r) (h' : IsPar w n E span score e s was r') : r = r' := by
 rcases h with ⟨rfl, h⟩ | ⟨M, h1, h2, h3, h4, h5⟩
 ·rcases h' with ⟨rfl, _⟩ | ⟨M, g1, g2, g3, g4, g5⟩
  ·rfl
  ·have := h _ g2; omega
 ·rcases h' with ⟨rfl, h⟩ | ⟨M', g1, g2, g3, g4, g5⟩
  ·have := h _ h2; omega
  ·have hM : M = M' := by have := h4 _ g2; have := g4 _ h2; omega
   subst hM
   rcases h5 with rfl | ⟨h5, h6⟩
   ·rcases g5 with e | ⟨g5, _⟩
    ·exact e.symm
    ·exact absurd ⟨h2, h3⟩ g5
   ·rcases g5 with rfl | ⟨g5, g6⟩
    ·exact absurd ⟨g2, g3⟩ h5
    ·rcases h6 _ g2 g3 with e | h7
     ·exact e.symm
     ·rcases g6 _ h2 h3 with e | g7
      ·exact e
      ·rw [bless_asymm h7] at g7; cases g7
theorem par_of {w n : Nat} {E : List (List Si)} {span score e : Nat} {s r : List UInt8} (h : IsPar w n E span score e s (wasE w n E span score s e) r) : parE w n E span score s e = r := by
 rw [parE_eq]
 exact (Classical.epsilon_spec (p := IsPar w n E span score e s (wasE w n E span score s e)) ⟨r, h⟩ : IsPar _ _ _ _ _ _ _ _ _).uniq h
theorem atF_pre {w n : Nat} {E E' : List (List Si)} {e : Nat} {t : List UInt8} (he : e < E.length) : atF w n (E ++ E') e t = atF w n E e t := by
 unfold atF; rw [List.take_append_of_le_length oM]
theorem togN_pre {w n : Nat} {E E' : List (List Si)} {a b : List UInt8} {lo : Nat} : ∀ m, m ≤ E.length → togN w n (E ++ E') a b lo m = togN w n E a b lo m := by
 intro m
 induction m with
 | zero => intro _; rfl
 | succ m ih => intro h; simp only [togN, tog1]; rw [ih oM, atF_pre oM, atF_pre oM]
theorem togE_pre {w n : Nat} {E E' : List (List Si)} {span : Nat} {a b : List UInt8} {e : Nat} (he : e < E.length) : togE w n (E ++ E') span a b e = togE w n E span a b e := togN_pre _ oM
theorem IsPar_pre {w n : Nat} {E E' : List (List Si)} {span score e : Nat} {s was : List UInt8} (he : e < E.length) : IsPar w n (E ++ E') span score e s was = IsPar w n E span score e s was := by
 funext r
 unfold IsPar
 simp only [togE_pre he]
theorem parE_pre {w n : Nat} {E E' : List (List Si)} {span score : Nat} {s : List UInt8} : ∀ e, e < E.length → parE w n (E ++ E') span score s e = parE w n E span score s e := by
 intro e
 induction e with
 | zero => intro h; simp only [parE, IsPar_pre h]
 | succ e ih => intro h; simp only [parE, IsPar_pre h, ih oM]
theorem atF_told {w n : Nat} {E : List (List Si)} (hn : 1 ≤ n) {e : Nat} {t : List UInt8} (h : 0 ≤ atF w n E e t) : toldE (E.take (e + 1)) t := by
 refine Classical.byContradiction fun hc => ?_
 have : atF w n E e t = -1 := by
  unfold atF atE atW
  refine bestTo_none (fun p => ?_) 8
  unfold cntE
  rw [List.filter_eq_nil_iff.2, List.length_nil]
  ·omega
  ·intro l hl hs
   obtain ⟨s, h1, h2, _⟩ := of_decide_eq_true hs
   exact hc ⟨l, List.mem_of_mem_drop hl, s, h1, h2⟩
 omega
theorem tog1_told {w n : Nat} {E : List (List Si)} (hn : 1 ≤ n) {a b : List UInt8} {e : Nat} (h : 0 < tog1 w n E a b e) : toldE (E.take (e + 1)) a ∧ toldE (E.take (e + 1)) b := by
 unfold tog1 at h
 split at h
 ·rename_i hc; exact ⟨atF_told hn hc.1, atF_told hn (by rw [← hc.2]; exact hc.1)⟩
 ·omega
theorem toldE_take {E : List (List Si)} {t : List UInt8} {i j : Nat} (h : i ≤ j) (ht : toldE (E.take i) t) : toldE (E.take j) t := by
 obtain ⟨l, hl, hs⟩ := ht
 refine ⟨l, ?_, hs⟩
 rw [show E.take i = (E.take j).take i by rw [List.take_take, Nat.min_eq_left h]] at hl
 exact List.mem_of_mem_take hl
theorem togN_told {w n : Nat} {E : List (List Si)} (hn : 1 ≤ n) {a b : List UInt8} {lo : Nat} : ∀ m, 0 < togN w n E a b lo m → toldE (E.take m) a ∧ toldE (E.take m) b := by
 intro m
 induction m with
 | zero => intro h; simp [togN] at h
 | succ m ih =>
  intro h
  simp only [togN] at h
  by_cases h1 : 0 < togN w n E a b lo m
  ·obtain ⟨q1, q2⟩ := ih h1
   exact ⟨toldE_take oM q1, toldE_take oM q2⟩
  ·split at h
   ·have h2 : 0 < tog1 w n E a b m := oM
    exact tog1_told hn h2
   ·omega
theorem togE_told {w n : Nat} {E : List (List Si)} (hn : 1 ≤ n) {span : Nat} {a b : List UInt8} {e : Nat} (h : 0 < togE w n E span a b e) : toldE (E.take (e + 1)) a ∧ toldE (E.take (e + 1)) b := togN_told hn _ h
theorem tog1_le {w n : Nat} {E : List (List Si)} {a b : List UInt8} {e : Nat} : tog1 w n E a b e ≤ 1 := by unfold tog1; split <;> omega
theorem togN_le {w n : Nat} {E : List (List Si)} {a b : List UInt8} {lo : Nat} : ∀ m, togN w n E a b lo m ≤ m := by
 intro m
 induction m with
 | zero => simp [togN]
 | succ m ih => have h1 := tog1_le (w := w) (n := n) (E := E) (a := a) (b := b) (e := m); simp only [togN]; split <;> omega
theorem par_nil {w n : Nat} {E : List (List Si)} (hn : 1 ≤ n) {span score e : Nat} (hs : 1 ≤ score) {s : List UInt8} (h : kindOf s ≤ 0 ∨ ¬ toldE (E.take (e + 1)) s) : parE w n E span score s e = [] := by
 refine par_of (.inl ⟨rfl, fun p hp => ?_⟩)
 rcases h with h | h
 ·have := hp.1; omega
 ·refine Nat.lt_of_not_le fun hc => h (togE_told hn (show 0 < togE w n E span s p e by omega)).1
end Go.Cw
namespace Go.Cw
open Go
def FoldP (T : List UInt8 → Nat) (score : Nat) (s was : List UInt8) (pre : List (List UInt8)) (best : List UInt8) (most : Int) : Prop :=
 (best = [] ∧ most = (score : Int) - 1 ∧ ∀ p ∈ pre, cand s p → T p < score) ∨
 ((score : Int) ≤ most ∧ cand s best ∧ best ∈ pre ∧ (T best : Int) = most ∧ (∀ p ∈ pre, cand s p → (T p : Int) ≤ most) ∧
  (best = was ∨ (¬ (was ∈ pre ∧ cand s was ∧ (T was : Int) = most) ∧ ∀ p ∈ pre, cand s p → (T p : Int) = most → p = best ∨ Op.bytesLess best p = true)))
variable {T : List UInt8 → Nat} {score : Nat} {s was : List UInt8} {pre : List (List UInt8)} {best : List UInt8} {most : Int} {p : List UInt8}
theorem FoldP.nil : FoldP T score s was [] [] ((score : Int) - 1) := .inl ⟨rfl, rfl, by simp⟩
theorem FoldP.skip (h : FoldP T score s was pre best most) (hp : ¬ cand s p) : FoldP T score s was (pre ++ [p]) best most := by
 have hm : ∀ {q}, q ∈ pre ++ [p] → cand s q → q ∈ pre := by
  intro q hq hc
  rw [List.mem_append, List.mem_singleton] at hq
  rcases hq with hq | rfl
  ·exact hq
  ·exact absurd hc hp
 rcases h with ⟨h1, h2, h3⟩ | ⟨h1, h2, h3, h4, h5, h6⟩
 ·exact .inl ⟨h1, h2, fun q hq hc => h3 q (hm hq hc) hc⟩
 ·refine .inr ⟨h1, h2, by simp [h3], h4, fun q hq hc => h5 q (hm hq hc) hc, h6.imp id fun ⟨a, b⟩ => ⟨fun ⟨q1, q2, q3⟩ => a ⟨hm q1 q2, q2, q3⟩, fun q hq hc => b q (hm hq hc) hc⟩⟩
theorem FoldP.take (h : FoldP T score s was pre best most) (hp : cand s p) (hord : ∀ q ∈ pre, Op.bytesLess q p = true) (hs : 1 ≤ score)
  (hc : most < (T p : Int) ∨ ((T p : Int) = most ∧ (score : Int) ≤ T p ∧ p = was)) : FoldP T score s was (pre ++ [p]) p (T p) := by
 have hall : ∀ q ∈ pre, cand s q → (T q : Int) ≤ T p := by
  intro q hq hcq
  rcases h with ⟨h1, h2, h3⟩ | ⟨h1, h2, h3, h4, h5, h6⟩
  ·have := h3 q hq hcq; omega
  ·have := h5 q hq hcq; omega
 have hsc : (score : Int) ≤ T p := by
  rcases hc with hc | hc
  ·rcases h with ⟨h1, h2, h3⟩ | ⟨h1, h2, h3, h4, h5, h6⟩ <;> omega
  ·exact hc.2.1
 refine .inr ⟨hsc, hp, by simp, rfl, fun q hq hcq => ?_, ?_⟩
 ·rw [List.mem_append, List.mem_singleton] at hq
  rcases hq with hq | rfl
  ·exact hall q hq hcq
  ·omega
 ·by_cases hw : p = was
  ·exact .inl hw
  ·refine .inr ?_
   have hgt : most < (T p : Int) := by
    rcases hc with hc | hc
    ·exact hc
    ·exact absurd hc.2.2 hw
   have hlt : ∀ q ∈ pre, cand s q → (T q : Int) < T p := by
    intro q hq hcq
    rcases h with ⟨h1, h2, h3⟩ | ⟨h1, h2, h3, h4, h5, h6⟩
    ·have := h3 q hq hcq; omega
    ·have := h5 q hq hcq; omega
   refine ⟨fun ⟨q1, q2, q3⟩ => ?_, fun q hq hcq he => ?_⟩
   ·rw [List.mem_append, List.mem_singleton] at q1
    rcases q1 with q1 | e
    ·have := hlt _ q1 q2; omega
    ·exact hw e.symm
   ·rw [List.mem_append, List.mem_singleton] at hq
    rcases hq with hq | rfl
    ·have := hlt _ hq hcq; omega
    ·exact .inl rfl
theorem FoldP.leave (h : FoldP T score s was pre best most) (hp : cand s p) (hord : ∀ q ∈ pre, Op.bytesLess q p = true)
  (hc : ¬ (most < (T p : Int) ∨ ((T p : Int) = most ∧ (score : Int) ≤ T p ∧ p = was))) : FoldP T score s was (pre ++ [p]) best most := by
 rcases h with ⟨h1, h2, h3⟩ | ⟨h1, h2, h3, h4, h5, h6⟩
 ·refine .inl ⟨h1, h2, fun q hq hcq => ?_⟩
  rw [List.mem_append, List.mem_singleton] at hq
  rcases hq with hq | rfl
  ·exact h3 q hq hcq
  ·omega
 ·refine .inr ⟨h1, h2, by simp [h3], h4, fun q hq hcq => ?_, h6.imp id fun ⟨a, b⟩ => ⟨fun ⟨q1, q2, q3⟩ => ?_, fun q hq hcq he => ?_⟩⟩
  ·rw [List.mem_append, List.mem_singleton] at hq
   rcases hq with hq | rfl
   ·exact h5 q hq hcq
   ·omega
  ·rw [List.mem_append, List.mem_singleton] at q1
   rcases q1 with q1 | e
   ·exact a ⟨q1, q2, q3⟩
   ·subst e; exact hc (.inr ⟨q3, oM, rfl⟩)
  ·rw [List.mem_append, List.mem_singleton] at hq
   rcases hq with hq | rfl
   ·exact b q hq hcq he
   ·exact .inr (hord _ h3)
def MaxP (T : List UInt8 → Nat) (s : List UInt8) (pre : List (List UInt8)) (best : Nat) : Prop :=
 (∀ p ∈ pre, cand s p → T p ≤ best) ∧ (best = 0 ∨ ∃ p ∈ pre, cand s p ∧ T p = best)
theorem MaxP.nil : MaxP T s [] 0 := ⟨by simp, .inl rfl⟩
theorem MaxP.skip {b : Nat} (h : MaxP T s pre b) (hp : ¬ cand s p) : MaxP T s (pre ++ [p]) b := by
 refine ⟨fun q hq hc => ?_, h.2.imp id fun ⟨q, q1, q2⟩ => ⟨q, by simp [q1], q2⟩⟩
 rw [List.mem_append, List.mem_singleton] at hq
 rcases hq with hq | rfl
 ·exact h.1 q hq hc
 ·exact absurd hc hp
theorem MaxP.more {b : Nat} (h : MaxP T s pre b) (hp : cand s p) : MaxP T s (pre ++ [p]) (max b (T p)) := by
 refine ⟨fun q hq hc => ?_, ?_⟩
 ·rw [List.mem_append, List.mem_singleton] at hq
  rcases hq with hq | rfl
  ·have := h.1 q hq hc; omega
  ·omega
 ·rcases Nat.le_total b (T p) with hb | hb
  ·exact .inr ⟨p, by simp, hp, oM⟩
  ·refine h.2.imp (fun e => by omega) fun ⟨q, q1, q2, q3⟩ => ⟨q, by simp [q1], q2, oM⟩
def FirstP (T : List UInt8 → Nat) (s was : List UInt8) (M : Nat) (pre : List (List UInt8)) (first : List UInt8) : Prop :=
 ¬ (was ∈ pre ∧ cand s was ∧ T was = M) ∧ ((first = [] ∧ ∀ p ∈ pre, cand s p → T p ≠ M) ∨ (first ∈ pre ∧ cand s first ∧ T first = M ∧ ∀ p ∈ pre, cand s p → T p = M → p = first ∨ Op.bytesLess first p = true))
theorem FirstP.nil {M : Nat} : FirstP T s was M [] [] := ⟨by simp, .inl ⟨rfl, by simp⟩⟩
theorem cand.ne {q : List UInt8} (h : cand s q) : q ≠ [] := by
 rintro rfl
 have h1 := h.1
 have h2 := h.2
 have : kindOf [] = 0 := by decide
 omega
theorem FirstP.skip {M : Nat} {first : List UInt8} (h : FirstP T s was M pre first) (hp : ¬ (cand s p ∧ T p = M)) : FirstP T s was M (pre ++ [p]) first := by
 have hm : ∀ {q}, q ∈ pre ++ [p] → cand s q → T q = M → q ∈ pre := by
  intro q hq hc ht
  rw [List.mem_append, List.mem_singleton] at hq
  rcases hq with hq | rfl
  ·exact hq
  ·exact absurd ⟨hc, ht⟩ hp
 refine ⟨fun ⟨q1, q2, q3⟩ => h.1 ⟨hm q1 q2 q3, q2, q3⟩, h.2.imp (fun ⟨a, b⟩ => ⟨a, fun q hq hc ht => b q (hm hq hc ht) hc ht⟩) fun ⟨a, b, c, d⟩ => ⟨by simp [a], b, c, fun q hq hc ht => d q (hm hq hc ht) hc ht⟩⟩
theorem FirstP.take {M : Nat} {first : List UInt8} (h : FirstP T s was M pre first) (hp : cand s p) (ht : T p = M) (hw : p ≠ was) (hord : ∀ q ∈ pre, Op.bytesLess q p = true) : FirstP T s was M (pre ++ [p]) (if first = [] then p else first) := by
 refine ⟨fun ⟨q1, q2, q3⟩ => ?_, .inr ?_⟩
 ·rw [List.mem_append, List.mem_singleton] at q1
  rcases q1 with q1 | e
  ·exact h.1 ⟨q1, q2, q3⟩
  ·exact hw e.symm
 ·rcases h.2 with ⟨rfl, hn⟩ | ⟨h1, h2, h3, h4⟩
  ·rw [if_pos rfl]
   refine ⟨by simp, hp, ht, fun q hq hc he => ?_⟩
   rw [List.mem_append, List.mem_singleton] at hq
   rcases hq with hq | rfl
   ·exact absurd he (hn q hq hc)
   ·exact .inl rfl
  ·rw [if_neg h2.ne]
   refine ⟨by simp [h1], h2, h3, fun q hq hc he => ?_⟩
   rw [List.mem_append, List.mem_singleton] at hq
   rcases hq with hq | rfl
   ·exact h4 q hq hc he
   ·exact .inr (hord _ h1)
section
variable {w n : Nat} {E : List (List Si)} {span e : Nat}
theorem FoldP.par {l : List (List UInt8)} (h : FoldP (fun p => togE w n E span s p e) score s was l best most) (hs : 1 ≤ score)
  (hl : ∀ p, cand s p → 0 < togE w n E span s p e → p ∈ l) : IsPar w n E span score e s was best := by
 unfold FoldP at h
 dsimp only at h
 rcases h with ⟨h1, h2, h3⟩ | ⟨h1, h2, h3, h4, h5, h6⟩
 ·refine .inl ⟨h1, fun p hp => ?_⟩
  refine Nat.lt_of_not_le fun hc => ?_
  have := h3 p (hl p hp oM) hp
  omega
 ·have hM : most = ((togE w n E span s best e : Nat) : Int) := h4.symm
  subst hM
  refine .inr ⟨_, oM, h2, rfl, fun p hp => ?_, ?_⟩
  ·by_cases h0 : 0 < togE w n E span s p e
   ·have := h5 p (hl p hp h0) hp; omega
   ·omega
  ·rcases h6 with h6 | ⟨h6, h7⟩
   ·exact .inl h6
   ·refine .inr ⟨fun ⟨q1, q2⟩ => h6 ⟨hl _ q1 oM, q1, by rw [q2]⟩, fun p hp he => h7 p (hl p hp oM) hp (by rw [he])⟩
theorem MaxP.ltP {l : List (List UInt8)} {b : Nat} (h : MaxP (fun p => togE w n E span s p e) s l b) (hs : 1 ≤ score) (hb : b < score)
  (hl : ∀ p, cand s p → 0 < togE w n E span s p e → p ∈ l) : IsPar w n E span score e s was [] := by
 unfold MaxP at h
 dsimp only at h
 refine .inl ⟨rfl, fun p hp => ?_⟩
 by_cases h0 : 0 < togE w n E span s p e
 ·have := h.1 p (hl p hp h0) hp; omega
 ·omega
theorem MaxP.wasP {l : List (List UInt8)} {b : Nat} (h : MaxP (fun p => togE w n E span s p e) s l b) (hs : 1 ≤ score) (hb : score ≤ b)
  (hl : ∀ p, cand s p → 0 < togE w n E span s p e → p ∈ l) (hc : cand s was) (ht : togE w n E span s was e = b) : IsPar w n E span score e s was was := by
 unfold MaxP at h
 dsimp only at h
 refine .inr ⟨b, hb, hc, ht, fun p hp => ?_, .inl rfl⟩
 by_cases h0 : 0 < togE w n E span s p e
 ·exact h.1 p (hl p hp h0) hp
 ·omega
theorem MaxP.firstP {l : List (List UInt8)} {b : Nat} {first : List UInt8} (h : MaxP (fun p => togE w n E span s p e) s l b) (hs : 1 ≤ score) (hb : score ≤ b)
  (hl : ∀ p, cand s p → 0 < togE w n E span s p e → p ∈ l) (hf : FirstP (fun p => togE w n E span s p e) s was b l first) : IsPar w n E span score e s was first := by
 unfold MaxP at h
 unfold FirstP at hf
 dsimp only at h hf
 obtain ⟨p0, q1, q2, q3⟩ : ∃ p ∈ l, cand s p ∧ togE w n E span s p e = b := by
  rcases h.2 with h2 | h2
  ·omega
  ·exact h2
 rcases hf with ⟨f1, ⟨rfl, f2⟩ | ⟨f2, f3, f4, f5⟩⟩
 ·exact absurd q3 (f2 p0 q1 q2)
 ·refine .inr ⟨b, hb, f3, f4, fun p hp => ?_, .inr ⟨fun ⟨c1, c2⟩ => f1 ⟨hl _ c1 oM, c1, c2⟩, fun p hp he => f5 p (hl p hp oM) hp he⟩⟩
  by_cases h0 : 0 < togE w n E span s p e
  ·exact h.1 p (hl p hp h0) hp
  ·omega
end
end Go.Cw
namespace Go.Cw
open Go
theorem togN_lo {w n : Nat} {E : List (List Si)} {a b : List UInt8} {lo : Nat} : ∀ m, m ≤ lo → togN w n E a b lo m = 0 := by
 intro m
 induction m with
 | zero => intro _; rfl
 | succ m ih => intro h; simp only [togN]; rw [ih oM, if_neg oM]
theorem togN_succ {w n : Nat} {E : List (List Si)} {a b : List UInt8} {lo m : Nat} (h : lo ≤ m) : togN w n E a b lo (m + 1) = togN w n E a b lo m + tog1 w n E a b m := by simp only [togN]; rw [if_pos h]
def S84 : Spec := fun args h K => ∃ g bm window need E a b, ∃ e span : Nat, args = [.pointer (some ⟨bm, 0, none⟩), .string (str a), .string (str b), .int .i64 e, .int .i64 span] ∧ RT g bm window need E ∧ Heap.le g h ∧ MOkE window need E ∧ a.length ≤ 1000000 ∧ b.length ≤ 1000000 ∧ e < E.length ∧ 1 ≤ span ∧ span ≤ 8 ∧
 ∀ g' h', Step g h g' h' → RT g' bm window need E → K (.int .i64 (togE window need E span a b e : Nat)) h'
theorem F84_ok {N : Num} {Γ : Ctx} [GoodC Γ] (H70 : Sat S70 (Γ 70)) : Sat S84 (SF N Γ F84) := by
 rintro _ h K ⟨g, bm, window, need, E, a, b, e, span, rfl, hT, hg, hm, hal, hbl, he, hs1, hs2, hK⟩
 have hel : E.length ≤ 1000 := (hT.read hg).choose_spec.choose_spec.2.2.1
 refine i_fun rfl ?_
 simp only [F84, Ze, Nat.reduceSub, Nat.reduceAdd]
 have hmax : max 0 (IntKind.i64.wrap (IntKind.i64.wrap ((e : Int) - span) + 1)) = ((e + 1 - span : Nat) : Int) := by rw [w64 (n := (e : Int) - span) oM oM, w64 oM oM]; omega
 refine sw1 @hmax ?_
 refine i_loop (fun m : Nat => [some (.pointer (some ⟨bm, 0, none⟩)), some (.string (str a)), some (.string (str b)), some (.int .i64 e), some (.int .i64 span), none, some (.int .i64 (togN window need E a b (e + 1 - span) m : Nat)), some (.int .i64 m), none, none, none, none, none, none])
  (fun m H => e + 1 - span ≤ m ∧ m ≤ e + 1 ∧ ∃ g', Step g h g' H ∧ RT g' bm window need E) (fun m => e + 1 - m) (e + 1 - span) (by rw [togN_lo _ (Nat.le_refl _)]; try simp only [Pf]; rfl) ⟨oM, oM, g, Step.refl hg, hT⟩ ?_
 rintro m H ⟨hm1, hm2, g1, hS1, hT1⟩
 have hle := togN_le (w := window) (n := need) (E := E) (a := a) (b := b) (lo := e + 1 - span) m
 refine sw0 ?_
 refine i_cond (fun c => ?_) (fun c => ?_)
 rotate_left
 ·have : m = e + 1 := oM
  subst this
  refine sw0 ?_
  exact hK g1 H hS1 hT1
 have hm3 : m ≤ e := oM
 refine sw0 ?_
 refine i_call H70 ⟨g1, bm, window, need, E, a, m, rfl, hT1, hS1.le, hm, hal, oM, fun g2 h2 hS2 hT2 => ?_⟩
 have hw : IntKind.i64.wrap ((m : Int) + 1) = ((m + 1 : Nat) : Int) := by rw [w64 oM oM]; omega
 by_cases hc : 0 ≤ atE window need (E.take (m + 1)) a
 ·have hc' : (0 ≤ atE window need (E.take (m + 1)) a) = True := by simpa using hc
  refine sw1 @hc' ?_
  refine i_call H70 ⟨g2, bm, window, need, E, b, m, rfl, hT2, hS2.le, hm, hbl, oM, fun g3 h3 hS3 hT3 => ?_⟩
  refine sw0 ?_
  refine i_cond (fun c2 => ?_) (fun c2 => ?_)
  ·have hn : togN window need E a b (e + 1 - span) (m + 1) = togN window need E a b (e + 1 - span) m + 1 := by
    rw [togN_succ hm1, tog1, if_pos ⟨hc, c2.symm⟩]
   have hw2 : IntKind.i64.wrap ((togN window need E a b (e + 1 - span) m : Int) + 1) = ((togN window need E a b (e + 1 - span) (m + 1) : Nat) : Int) := by rw [hn, w64 oM oM]; omega
   refine sw2 @hw @hw2 ?_
   exact k_loop (m + 1) oM sE ⟨oM, oM, g3, (hS1.trans hS2).trans hS3, hT3⟩
  ·have hn : togN window need E a b (e + 1 - span) (m + 1) = togN window need E a b (e + 1 - span) m := by
    rw [togN_succ hm1, tog1, if_neg (fun h => c2 h.2.symm)]; rfl
   refine sw1 @hw ?_
   exact k_loop (m + 1) oM (by rw [hn]; try simp only [Pf]) ⟨oM, oM, g3, (hS1.trans hS2).trans hS3, hT3⟩
 ·have hc' : (0 ≤ atE window need (E.take (m + 1)) a) = False := by simpa using hc
  have hn : togN window need E a b (e + 1 - span) (m + 1) = togN window need E a b (e + 1 - span) m := by
   rw [togN_succ hm1, tog1, if_neg (fun h => hc h.1)]; rfl
  refine sw2 @hc' @hw ?_
  exact k_loop (m + 1) oM (by rw [hn]; try simp only [Pf]) ⟨oM, oM, g2, hS1.trans hS2, hT2⟩
def S68 : Spec := fun args h K => ∃ bx gt bt window need E a b, ∃ e span : Nat, args = [.pointer (some ⟨bx, 0, none⟩), .string (str a), .string (str b), .int .i64 e] ∧ TrO gt bt window need E ∧ Heap.le gt h ∧ h.cell ((⟨bx, 0, none⟩ : Addr).add 0) = some (.int .i64 span) ∧ h.cell ((⟨bx, 0, none⟩ : Addr).add 2) = some (.pointer (some ⟨bt, 0, none⟩)) ∧ 1 ≤ need ∧ E.length ≤ 1000 ∧ e < E.length ∧ 1 ≤ span ∧ span ≤ 8 ∧
 K (.int .i64 (togE window need E span a b e : Nat)) h
theorem whr_told {window need : Nat} {E : List (List Si)} {t : List UInt8} {m : Nat} (hn : 1 ≤ need) (hm : m < E.length) : (whr window need E t m = (atF window need E m t, 0) ∧ toldE E t) ∨ (whr window need E t m = (0, 5) ∧ atF window need E m t < 0) := by
 unfold whr
 rw [if_neg oM, Int.toNat_natCast]
 split
 ·rename_i ht; exact .inl ⟨rfl, ht⟩
 ·rename_i ht
  refine .inr ⟨rfl, Int.not_le.1 fun hc => ht ?_⟩
  have := atF_told hn hc
  obtain ⟨l, hl, hs⟩ := this
  exact ⟨l, List.mem_of_mem_take hl, hs⟩
theorem F68_ok {N : Num} {Γ : Ctx} [GoodC Γ] (H30 : Sat (S30 N) (Γ 30)) : Sat S68 (SF N Γ F68) := by
 rintro _ h K ⟨bx, gt, bt, window, need, E, a, b, e, span, rfl, hT, hg, hA0, hA2, hn, hel, he, hs1, hs2, hK⟩
 refine i_fun rfl ?_
 simp only [F68, Ze, Nat.reduceSub, Nat.reduceAdd]
 have hmax : max 0 (IntKind.i64.wrap (IntKind.i64.wrap ((e : Int) - span) + 1)) = ((e + 1 - span : Nat) : Int) := by rw [w64 (n := (e : Int) - span) oM oM, w64 oM oM]; omega
 refine sw2 @hA0 @hmax ?_
 refine i_loop (fun m : Nat => [some (.pointer (some ⟨bx, 0, none⟩)), some (.string (str a)), some (.string (str b)), some (.int .i64 e), none, some (.int .i64 (togN window need E a b (e + 1 - span) m : Nat)), some (.int .i64 m), none, none, none, none, none, none, none, none])
  (fun m H => e + 1 - span ≤ m ∧ m ≤ e + 1 ∧ H = h) (fun m => e + 1 - m) (e + 1 - span) (by rw [togN_lo _ (Nat.le_refl _)]; try simp only [Pf]; rfl) ⟨oM, oM, rfl⟩ ?_
 rintro m H ⟨hm1, hm2, rfl⟩
 have hle := togN_le (w := window) (n := need) (E := E) (a := a) (b := b) (lo := e + 1 - span) m
 refine sw0 ?_
 refine i_cond (fun c => ?_) (fun c => ?_)
 rotate_left
 ·have : m = e + 1 := oM
  subst this
  refine sw0 ?_
  exact hK
 have hm3 : m ≤ e := oM
 have hw : IntKind.i64.wrap ((m : Int) + 1) = ((m + 1 : Nat) : Int) := by rw [w64 oM oM]; omega
 refine sw1 @hA2 ?_
 refine i_call H30 (S30_whr hT hg ?_)
 refine sw1 @hA2 ?_
 refine i_call H30 (S30_whr hT hg ?_)
 have hsame : ∀ hc : ¬ (0 ≤ atF window need E m a ∧ atF window need E m a = atF window need E m b), togN window need E a b (e + 1 - span) (m + 1) = togN window need E a b (e + 1 - span) m := fun hc => by
  rw [togN_succ hm1, tog1, if_neg hc]; rfl
 rcases whr_told (window := window) (t := a) hn (show m < E.length by omega) with ⟨ea, _⟩ | ⟨ea, la⟩
 ·rcases whr_told (window := window) (t := b) hn (show m < E.length by omega) with ⟨eb, _⟩ | ⟨eb, lb⟩
  ·rw [ea, eb]
   refine sw1 @errV_zero ?_
   refine i_cond (fun c2 => ?_) (fun c2 => ?_)
   ·have hn : togN window need E a b (e + 1 - span) (m + 1) = togN window need E a b (e + 1 - span) m + 1 := by
     rw [togN_succ hm1, tog1, if_pos c2]
    have hw2 : IntKind.i64.wrap ((togN window need E a b (e + 1 - span) m : Int) + 1) = ((togN window need E a b (e + 1 - span) (m + 1) : Nat) : Int) := by rw [hn, w64 oM oM]; omega
    refine sw2 @hw @hw2 ?_
    exact k_loop (m + 1) oM sE ⟨oM, oM, rfl⟩
   ·refine sw1 @hw ?_
    exact k_loop (m + 1) oM (by rw [hsame c2]; try simp only [Pf]) ⟨oM, oM, rfl⟩
  ·rw [ea, eb]
   refine sw3 @errV_zero @errV_succ @hw ?_
   exact k_loop (m + 1) oM (by rw [hsame oM]; try simp only [Pf]) ⟨oM, oM, rfl⟩
 ·rw [ea]
  generalize whr window need E b m = wb
  obtain ⟨q, f⟩ := wb
  refine sw2 @errV_succ @hw ?_
  exact k_loop (m + 1) oM (by rw [hsame oM]; try simp only [Pf]) ⟨oM, oM, rfl⟩
theorem ordT_take {l : List (List UInt8)} (h : ordT l) {i : Nat} (hi : i < l.length) : ∀ q ∈ l.take i, Op.bytesLess q (l.getD i default) = true := by
 intro q hq
 obtain ⟨j, hj, rfl⟩ := List.getElem_of_mem hq
 rw [List.length_take] at hj
 have := List.pairwise_iff_getElem.1 h j i oM hi oM
 rw [List.getElem_take]
 simpa [List.getD, hi] using this
def S69 : Spec := fun args h K => ∃ g bm window need E s was, ∃ e span score : Nat, args = [.pointer (some ⟨bm, 0, none⟩), .string (str s), .int .i64 e, .int .i64 span, .int .i64 score, .string (str was)] ∧ RT g bm window need E ∧ Heap.le g h ∧ MOkE window need E ∧ s.length ≤ 1000000 ∧ (∀ t, toldE E t → t.length ≤ 1000000) ∧ e < E.length ∧ 1 ≤ span ∧ span ≤ 8 ∧ 1 ≤ score ∧ score ≤ 8 ∧
 ∀ g' h' r, Step g h g' h' → RT g' bm window need E → IsPar window need E span score e s was r → K (.string (str r)) h'
theorem F69_ok {N : Num} {Γ : Ctx} [GoodC Γ] (H14 : Sat S14 (Γ 14)) (H83 : Sat S83 (Γ 83)) (H84 : Sat S84 (Γ 84)) : Sat S69 (SF N Γ F69) := by
 rintro _ h K ⟨g, bm, window, need, E, s, was, e, span, score, rfl, hT, hg, hm, hsl, htl, he, hs1, hs2, hc1, hc2, hK⟩
 have hR := hT.read hg
 have hel : E.length ≤ 1000 := hR.choose_spec.choose_spec.2.2.1
 have hn1 : 1 ≤ need := hm.2.2.1
 refine i_fun rfl ?_
 simp only [F69, Ze, Nat.reduceSub, Nat.reduceAdd]
 obtain ⟨evm, fvm, hom, ⟨vsm, hvm, hvml, _⟩, _⟩ := id hR
 have Am : h.cell ((⟨bm, 0, none⟩ : Addr).add 2) = some evm := hom.rules.1 2 (by simp)
 have Rm := hvm.rules1 id (fun _ => rfl) undef
 rw [hvml] at Rm
 refine sw2 @Am @Rm ?_
 refine i_call H14 ⟨⟨bm, 0, none⟩, window, need, E, E.length, rfl, hR, fun v h1 ho => ?_⟩
 rw [List.take_of_length_le oM] at ho
 have hord : ordT (tagsE E) := ordT_tagsOfL _
 have hmem := fun t => mem_tagsE E t
 have hfl := flatT_len E fun l hl => hR.choose_spec.choose_spec.2.2.2 l hl
 have htl2 : (tagsE E).length ≤ 2000000 := by have := tagsOfL_len (flatT E); unfold tagsE; omega
 generalize hL : tagsE E = L at *
 have hin : ∀ p, cand s p → 0 < togE window need E span s p e → p ∈ L := by
  intro p _ h0
  have := (togE_told hn1 h0).2
  obtain ⟨l, hl, hs⟩ := this
  exact (hmem p).2 ⟨l, List.mem_of_mem_take hl, hs⟩
 have hSl := ho.slf2 (enc := encT) (fun _ => rfl)
 have hF1 : Heap.le (fr h h1) h1 ∧ disj (fr h h1) g := by
  refine ⟨fr_le _ _, fun b hb => ?_⟩
  cases e1 : g b with
  | none => rfl
  | some o => exact absurd (fr_none (hg b o e1)) hb
 have hSt := Step.more hg ho.1
 generalize fr h h1 = F at *
 refine sw0 ?_
 refine i_meet_blk (fun env H => ∃ best g', Step g h g' H ∧ RT g' bm window need E ∧ Heap.le F H ∧ disj F g' ∧ MaxP (fun p => togE window need E span s p e) s L best ∧
  env = [some (.pointer (some ⟨bm, 0, none⟩)), some (.string (str s)), some (.int .i64 e), some (.int .i64 span), some (.int .i64 score), some (.string (str was)), none, some v, some (.int .i64 (best : Nat)), none, none, none, none, none, none, none, none, none, none, none, none, none, none, none, none, none, none, none, none]) ?_ ?_
 rotate_left
 ·refine i_loop (fun x : Nat × Nat => [some (.pointer (some ⟨bm, 0, none⟩)), some (.string (str s)), some (.int .i64 e), some (.int .i64 span), some (.int .i64 score), some (.string (str was)), none, some v, some (.int .i64 (x.2 : Nat)), some (.int .i64 (x.1 : Nat)), none, none, none, none, none, none, none, none, none, none, none, none, none, none, none, none, none, none, none])
   (fun x H => x.1 ≤ L.length ∧ ∃ g', Step g h g' H ∧ RT g' bm window need E ∧ Heap.le F H ∧ disj F g' ∧ MaxP (fun p => togE window need E span s p e) s (L.take x.1) x.2) (fun x => L.length - x.1) (0, 0) (by dsimp only; try simp only [Pf]; rfl) ⟨dM, g, hSt, hT, hF1.1, hF1.2, MaxP.nil⟩ ?_
  rintro ⟨i, best⟩ H ⟨hi, g1, hS1, hT1, hF⟩
  obtain ⟨hFl, hFd, hM⟩ := hF
  dsimp only at hi hM ⊢
  have RV := (hSl.le hFl).rules1 (fun t => .string (str t)) (fun _ => rfl) default
  refine sw1 @RV ?_
  refine i_cond (fun c => ?_) (fun c => ?_)
  rotate_left
  ·have : i = L.length := oM
   subst this
   rw [List.take_length] at hM
   refine sw0 ?_
   exact k_meet _ sE ⟨best, g1, hS1, hT1, hFl, hFd, hM, rfl⟩
  have hi2 : i < L.length := oM
  have htt := htl _ ((hmem _).1 (getD_mem default hi2))
  have hnx : L.take (i + 1) = L.take i ++ [L.getD i default] := take_succ_d default hi2
  have hw : IntKind.i64.wrap ((i : Int) + 1) = ((i + 1 : Nat) : Int) := by rw [w64 oM oM]; omega
  generalize hp : L.getD i default = p at *
  refine sw0 ?_
  refine i_call H83 ⟨s, rfl, fun h2 hle2 => ?_⟩
  have hS2 := hS1.trans (Step.more hS1.le hle2)
  have RV2 := (hSl.le (hFl.trans hle2)).rules1 (fun t => .string (str t)) (fun _ => rfl) default
  by_cases hk : 0 < kindOf s
  ·have hk' : (0 < kindOf s) = True := by simpa using hk
   refine sw3 @hk' @RV2 @hp ?_
   refine i_call H83 ⟨p, rfl, fun h3 hle3 => ?_⟩
   refine sw0 ?_
   refine i_call H83 ⟨s, rfl, fun h4 hle4 => ?_⟩
   have hle24 := hle3.trans hle4
   have hS4 := hS2.trans (Step.more hS2.le hle24)
   have hF4 := hFl.trans (hle2.trans hle24)
   have RV4 := (hSl.le hF4).rules1 (fun t => .string (str t)) (fun _ => rfl) default
   refine sw0 ?_
   refine i_cond (fun c2 => ?_) (fun c2 => ?_)
   ·refine sw2 @RV4 @hp ?_
    refine i_call H84 ⟨g1, bm, window, need, E, s, p, e, span, rfl, hT1, hS4.le, hm, hsl, htt, he, hs1, hs2, fun g5 h5 hS5 hT5 => ?_⟩
    obtain ⟨hF5, hd5⟩ := hS5.keep hF4 hFd
    have hmx : max (best : Int) ((togE window need E span s p e : Nat) : Int) = ((max best (togE window need E span s p e) : Nat) : Int) := oM
    refine sw2 @hmx @hw ?_
    exact k_loop (i + 1, max best (togE window need E span s p e)) dM (by dsimp only; try simp only [Pf]) ⟨dM, g5, hS4.trans hS5, hT5, hF5, hd5, by rw [hnx]; exact hM.more ⟨hk, c2⟩⟩
   ·refine sw1 @hw ?_
    exact k_loop (i + 1, best) dM (by dsimp only; try simp only [Pf]) ⟨dM, g1, hS4, hT1, hF4, hFd, by rw [hnx]; exact hM.skip fun hc => c2 hc.2⟩
  ·have hk' : (0 < kindOf s) = False := by simpa using hk
   refine sw2 @hk' @hw ?_
   exact k_loop (i + 1, best) dM (by dsimp only; try simp only [Pf]) ⟨dM, g1, hS2, hT1, hFl.trans hle2, hFd, by rw [hnx]; exact hM.skip fun hc => hk hc.1⟩
 rintro env H ⟨best, g1, hS1, hT1, hFl, hFd, hM, rfl⟩
 refine sw0 ?_
 refine i_loop (fun x : Nat × List UInt8 => [some (.pointer (some ⟨bm, 0, none⟩)), some (.string (str s)), some (.int .i64 e), some (.int .i64 span), some (.int .i64 score), some (.string (str was)), none, some v, some (.int .i64 (best : Nat)), none, some (.string (str x.2)), some (.int .i64 (x.1 : Nat)), none, none, none, none, none, none, none, none, none, none, none, none, none, none, none, none, none])
   (fun x H => x.1 ≤ L.length ∧ (best < score → x.1 = 0) ∧ ∃ g', Step g h g' H ∧ RT g' bm window need E ∧ Heap.le F H ∧ disj F g' ∧ FirstP (fun p => togE window need E span s p e) s was best (L.take x.1) x.2) (fun x => L.length - x.1) (0, []) (by try simp only [Pf]; rfl) ⟨dM, fun _ => rfl, g1, hS1, hT1, hFl, hFd, FirstP.nil⟩ ?_
 clear hS1 hT1 hFl hFd
 rintro ⟨i, first⟩ H ⟨hi, hi0, g1, hS1, hT1, hFl, hFd, hP⟩
 dsimp only at hi hi0 hP ⊢
 have RV := (hSl.le hFl).rules1 (fun t => .string (str t)) (fun _ => rfl) default
 have hwr : ∀ r, IsPar window need E span score e s was r → K (.string (str r)) H := fun r hr => hK g1 H r hS1 hT1 hr
 by_cases hb : best < score
 ·have hb1 : ((score : Int) ≤ (best : Int)) = False := by rw [eq_iff_iff]; simp; omega
  have hi00 := hi0 hb
  subst hi00
  obtain rfl : first = [] := by
   rcases hP with ⟨_, ⟨h1, _⟩ | ⟨h1, _⟩⟩
   ·exact h1
   ·simp at h1
  refine sw2 @RV @hb1 ?_
  exact hwr [] (hM.ltP hc1 hb hin)
 have hb2 : ((score : Int) ≤ (best : Int)) = True := by rw [eq_iff_iff]; simp; omega
 have hsb : score ≤ best := oM
 refine sw2 @RV @hb2 ?_
 refine i_cond (fun c => ?_) (fun c => ?_)
 rotate_left
 ·have : i = L.length := oM
  subst this
  rw [List.take_length] at hP
  refine sw0 ?_
  exact hwr first (hM.firstP hc1 hsb hin hP)
 have hi2 : i < L.length := oM
 have hpm := getD_mem default hi2
 have htt := htl _ ((hmem _).1 hpm)
 have hnx : L.take (i + 1) = L.take i ++ [L.getD i default] := take_succ_d default hi2
 have hw : IntKind.i64.wrap ((i : Int) + 1) = ((i + 1 : Nat) : Int) := by rw [w64 oM oM]; omega
 have hordi := ordT_take hord hi2
 have hks : 0 < kindOf s := by
  rcases hM.2 with h2 | ⟨q, _, hq, _⟩
  ·omega
  ·exact hq.1
 generalize hp : L.getD i default = p at *
 refine sw2 @RV @hp ?_
 refine i_call H83 ⟨p, rfl, fun h2 hle2 => ?_⟩
 refine sw0 ?_
 refine i_call H83 ⟨s, rfl, fun h3 hle3 => ?_⟩
 have hle23 := hle2.trans hle3
 have hS3 := hS1.trans (Step.more hS1.le hle23)
 have hF3 := hFl.trans hle23
 have RV3 := (hSl.le hF3).rules1 (fun t => .string (str t)) (fun _ => rfl) default
 by_cases hk : kindOf s < kindOf p
 rotate_left
 ·have hk' : (kindOf s < kindOf p) = False := by simpa using hk
  refine sw2 @hk' @hw ?_
  exact k_loop (i + 1, first) dM (by dsimp only; try simp only [Pf]) ⟨dM, fun h => by omega, g1, hS3, hT1, hF3, hFd, by rw [hnx]; exact hP.skip fun hc => hk hc.1.2⟩
 have hk' : (kindOf s < kindOf p) = True := by simpa using hk
 refine sw3 @hk' @RV3 @hp ?_
 refine i_call H84 ⟨g1, bm, window, need, E, s, p, e, span, rfl, hT1, hS3.le, hm, hsl, htt, he, hs1, hs2, fun g5 h5 hS5 hT5 => ?_⟩
 obtain ⟨hF5, hd5⟩ := hS5.keep hF3 hFd
 have hS := hS3.trans hS5
 have RV5 := (hSl.le hF5).rules1 (fun t => .string (str t)) (fun _ => rfl) default
 refine sw0 ?_
 refine i_cond (fun c2 => ?_) (fun c2 => ?_)
 rotate_left
 ·refine sw1 @hw ?_
  exact k_loop (i + 1, first) dM (by dsimp only; try simp only [Pf]) ⟨dM, fun h => by omega, g5, hS, hT5, hF5, hd5, by rw [hnx]; exact hP.skip fun hc => c2 (by have := hc.2; omega)⟩
 have hTp : togE window need E span s p e = best := oM
 refine sw2 @RV5 @hp ?_
 refine i_cond (fun c3 => ?_) (fun c3 => ?_)
 ·subst c3
  refine sw0 ?_
  exact hK g5 h5 _ hS hT5 (hM.wasP hc1 hsb hin ⟨hks, hk⟩ hTp)
 have hnext := hP.take ⟨hks, hk⟩ hTp c3 hordi
 rw [← hnx] at hnext
 refine sw0 ?_
 refine i_cond (fun c4 => ?_) (fun c4 => ?_)
 ·subst c4
  rw [if_pos rfl] at hnext
  refine sw3 @RV5 @hp @hw ?_
  exact k_loop (i + 1, p) dM (by dsimp only; try simp only [Pf]) ⟨dM, fun h => by omega, g5, hS, hT5, hF5, hd5, hnext⟩
 ·rw [if_neg c4] at hnext
  refine sw1 @hw ?_
  exact k_loop (i + 1, first) dM (by dsimp only; try simp only [Pf]) ⟨dM, fun h => by omega, g5, hS, hT5, hF5, hd5, hnext⟩
end Go.Cw
