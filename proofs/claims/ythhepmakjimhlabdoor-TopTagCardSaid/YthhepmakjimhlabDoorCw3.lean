/- Part 3 of the proof of TopTag: a small language for the program's functions, its soundness, and what the functions do. No conditions beyond the theorems' own. -/
import Derived.Test.YthhepmakjimhlabDoorCw2
set_option linter.unusedSimpArgs false
set_option linter.unusedVariables false
namespace Go.Cw
open Go

def mapV (b : Nat) : Value := .map (some b)
def encM (b : Nat) : List Value := [mapV b]
/-- an epoch's maps, as they are read -/
def EpR (g : Heap) (m : Nat) (E : Ep) : Prop := ∃ kv bs ck, MapB encKS mapV g m kv bs ck ∧ (∀ tag, look kv tag = none ↔ look E tag = none) ∧
  ∀ tag b, look kv tag = some b → ∃ pl bs ck, look E tag = some pl ∧ MapB encKI encKI g b pl bs ck
theorem EpR.le {g h : Heap} {m : Nat} {E : Ep} (he : EpR g m E) (hl : Heap.le g h) : EpR h m E := by
  obtain ⟨kv, bs, ck, h1, h2, h3⟩ := he
  exact ⟨kv, bs, ck, h1.le hl, h2, fun tag b hb => let ⟨pl, bs, ck, a, c⟩ := h3 tag b hb; ⟨pl, bs, ck, a, c.le hl⟩⟩

/-- a track, as it is read for a place -/
structure TrR (h : Heap) (a : Addr) (window need : Nat) (EL : List (List Si)) : Prop where
  ex : ∃ ev wv ems, objAt h a [.int .i64 window, .int .i64 need, ev, wv] ∧ Sl encM h ev ems ∧ ems.length = EL.length ∧ ∀ i, i < EL.length → EpR h (ems.getD i 0) (tellE (EL.getD i []))
/-- of what size all may be -/
structure TrOk (window need : Nat) (EL : List (List Si)) : Prop where
  w : 1 ≤ window ∧ window ≤ 8
  n : 1 ≤ need ∧ need ≤ window
  len : EL.length ≤ 100000
  ok : ∀ l ∈ EL, (∀ s ∈ l, ¬ s.bad) ∧ l.length ≤ 1000000

theorem Sl.lsl {α : Type} {enc : α → List Value} {sz : Nat} (he : ∀ x, (enc x).length = sz) {h : Heap} {v : Value} {l : List α} (hs : Sl enc h v l) {lo hi : Nat} (h1 : lo ≤ hi) (h2 : hi ≤ l.length) :
    ∃ v', (∀ k k', o3V (.lsl sz) (.v v) (.v (.int k lo)) (.v (.int k' hi)) = some (.v v')) ∧ Sl enc h v' ((l.take hi).drop lo) := by
  obtain ⟨a, cap, rfl, hcap, hr⟩ := hs
  refine ⟨.slice (if cap = lo then a else a.map (·.add (lo * sz))) (hi - lo) (cap - lo), ?_, ?_⟩
  · intro k k'
    simp only [o3V]
    rw [if_pos ⟨by omega, by omega, by omega⟩]
    simp
  · have hlen : ((l.take hi).drop lo).length = hi - lo := by rw [List.length_drop, List.length_take]; omega
    refine ⟨_, cap - lo, by rw [hlen], by rw [hlen]; omega, ?_⟩
    by_cases hz : hi = lo
    · exact .inl (List.eq_nil_of_length_eq_zero (by omega))
    · have hne : l ≠ [] := by intro e; subst e; simp at h2; omega
      obtain ⟨g, rfl, hrow⟩ := hr.resolve_left hne
      have hc : cap ≠ lo := by omega
      refine .inr ⟨g.add (lo * sz), by simp [hc], ?_⟩
      obtain ⟨r1, c, t, fz, r2, r3, r4⟩ := hrow
      have e1 : (l.take hi).drop lo = (l.drop lo).take (hi - lo) := by rw [List.drop_take]
      have hsplit : l.flatMap enc = (l.take lo).flatMap enc ++ (((l.drop lo).take (hi - lo)).flatMap enc ++ ((l.drop lo).drop (hi - lo)).flatMap enc) := by
        rw [← List.flatMap_append, ← List.flatMap_append, List.take_append_drop, List.take_append_drop]
      have hl1 : ((l.take lo).flatMap enc).length = lo * sz := by rw [flat_len he, List.length_take]; congr 1; omega
      have hl2 := congrArg List.length hsplit
      simp only [List.length_append] at hl2
      rw [e1, addr_add' g r1]
      refine ⟨rfl, c, t, fz, r2, by dsimp only; omega, fun i hi' => ?_⟩
      have := r4 (lo * sz + i) (by omega)
      dsimp only
      rw [show g.off + lo * sz + i = g.off + (lo * sz + i) by omega, this, hsplit, List.getElem?_append_right (by omega), List.getElem?_append_left (by omega)]
      congr 1; omega

def arr (f : Int → Int) : List Value := [.int .i64 (f 0), .int .i64 (f 1), .int .i64 (f 2), .int .i64 (f 3), .int .i64 (f 4), .int .i64 (f 5), .int .i64 (f 6), .int .i64 (f 7)]
theorem arr_get (f : Int → Int) {p : Nat} (h : p < 8) : (arr f)[p]? = some (.int .i64 (f p)) := by
  match p, h with
  | 0, _ | 1, _ | 2, _ | 3, _ | 4, _ | 5, _ | 6, _ | 7, _ => rfl
theorem arr_set (f : Int → Int) {p : Nat} (h : p < 8) (v : Int) : (arr f).take p ++ [.int .i64 v] ++ (arr f).drop (p + 1) = arr fun q => if q = p then v else f q := by
  match p, h with
  | 0, _ | 1, _ | 2, _ | 3, _ | 4, _ | 5, _ | 6, _ | 7, _ => simp [arr]
theorem arr_len (f : Int → Int) : (arr f).length = 8 := rfl
theorem arr_congr {f f' : Int → Int} (h : ∀ p : Nat, p < 8 → f p = f' p) : arr f = arr f' := by
  have h0 : f 0 = f' 0 := h 0 (by omega)
  have h1 : f 1 = f' 1 := h 1 (by omega)
  have h2 : f 2 = f' 2 := h 2 (by omega)
  have h3 : f 3 = f' 3 := h 3 (by omega)
  have h4 : f 4 = f' 4 := h 4 (by omega)
  have h5 : f 5 = f' 5 := h 5 (by omega)
  have h6 : f 6 = f' 6 := h 6 (by omega)
  have h7 : f 7 = f' 7 := h 7 (by omega)
  simp only [arr, h0, h1, h2, h3, h4, h5, h6, h7]

theorem countP_lt {l : List Nat} {p q : Nat → Bool} (hpq : ∀ x, p x = true → q x = true) {b : Nat} (hb : b ∈ l) (h1 : q b = true) (h2 : p b = false) : l.countP p < l.countP q := by
  induction l with
  | nil => simp at hb
  | cons x l ih =>
    simp only [List.countP_cons]
    have hle : l.countP p ≤ l.countP q := List.countP_mono_left fun x _ h => hpq x h
    simp only [List.mem_cons] at hb
    rcases hb with rfl | hb
    · simp [h1, h2]; omega
    · have := ih hb
      have hx : (if p x = true then 1 else 0) ≤ (if q x = true then 1 else 0) := by
        by_cases hp : p x = true
        · rw [if_pos hp, if_pos (hpq x hp)]; exact Nat.le_refl _
        · rw [if_neg hp]; exact Nat.zero_le _
      omega
def todo (bs dn : List Nat) : Nat := bs.countP fun b => !dn.contains b
theorem todo_lt {bs dn : List Nat} {b : Nat} (h1 : b ∈ bs) (h2 : b ∉ dn) : todo bs (dn ++ [b]) < todo bs dn := by
  refine countP_lt (b := b) (fun x hx => ?_) h1 (by simpa using h2) (by simp)
  simp only [List.contains_eq_mem, List.mem_append, Bool.not_eq_true', decide_eq_false_iff_not, not_or] at hx ⊢
  exact hx.1

/-- what a walk over the places of an epoch's tag has gathered -/
structure GoneI (h0 : Heap) (tag : List UInt8) (W : List (List Si)) (l : List Si) (pl : List (Int × Int)) (bs : List Nat) (m ck r bc bt : Nat) (dn : List Nat) (dl : List (Int × Int)) (h : Heap) : Prop where
  le : Heap.le h0 h
  it : IterB h r m ck dn
  sub : ∀ b ∈ dn, b ∈ bs
  mem : ∀ (i : Nat) p x b, pl[i]? = some (p, x) → bs[i]? = some b → (b ∈ dn ↔ (p, x) ∈ dl)
  dsub : ∀ e ∈ dl, e ∈ pl
  cnt : objAt h ⟨bc, 0, none⟩ (arr fun p => (cntE W tag p : Int) + if (look dl p).isSome then 1 else 0)
  str : objAt h ⟨bt, 0, none⟩ (arr fun p => strE W tag p + (look dl p).getD 0)

theorem look_snoc {kv : List (Int × Int)} {p x : Int} (hn : look kv p = none) (q : Int) : look (kv ++ [(p, x)]) q = if q = p then some x else look kv q := by
  induction kv with
  | nil => simp [look_cons, look_nil]
  | cons e r ih =>
    rw [look_cons] at hn
    split at hn
    · cases hn
    · rename_i hne
      rw [List.cons_append, look_cons, look_cons, ih hn]
      by_cases e1 : q = p
      · subst e1; rw [if_neg hne, if_pos rfl, if_pos rfl]
      · rw [if_neg e1, if_neg e1]

def S60 : Spec := fun args h K => ∃ a tag window need EL, args = [.pointer (some a), .string (Cw.str tag)] ∧ TrR h a window need EL ∧ TrOk window need EL ∧ ∀ h', Heap.le h h' → K (.int .i64 (atE window need EL tag)) h'

theorem F60_ok {N : Num} {Γ : Ctx} [GoodC Γ] : Sat S60 (SF N Γ F60) := by
  rintro _ h K ⟨a, tag, window, need, EL, rfl, ⟨ev, wv, ems, ha, hev, hel, hE⟩, hok, hK⟩
  obtain ⟨⟨w1, w2⟩, ⟨n1, n2⟩, hlen, hEok⟩ := hok
  refine i_fun rfl ?_
  simp only [F60, env0, List.map, List.length, List.replicate, List.cons_append, List.nil_append, Nat.reduceSub, Nat.reduceAdd]
  try simp (disch := first | omega | (simp only [PL]; omega)) only [PS, P1, P2, P3, P4, P5, P6, P7, P8, PA, PB, PC, Nat.reduceAdd, Nat.reduceSub, Nat.reduceMul, Nat.reduceLeDiff, Nat.reduceEqDiff, Nat.succ_ne_self, reduceCtorEq, Int.reduceToNat, Int.cast_ofNat_Int, Int.reduceEq, Int.reduceNe, Int.reduceLT, Int.reduceLE]
  refine i_newO fun bc h1 hle1 hb1 hc1 => ?_
  try simp (disch := first | omega | (simp only [PL]; omega)) only [PS, P1, P2, P3, P4, P5, P6, P7, P8, PA, PB, PC, Nat.reduceAdd, Nat.reduceSub, Nat.reduceMul, Nat.reduceLeDiff, Nat.reduceEqDiff, Nat.succ_ne_self, reduceCtorEq, Int.reduceToNat, Int.cast_ofNat_Int, Int.reduceEq, Int.reduceNe, Int.reduceLT, Int.reduceLE]
  refine i_newO fun bt h2 hle2 hb2 ht2 => ?_
  have hle02 := hle1.trans hle2
  have Ra := (ha.le hle02).rules
  have A0 : h2.cell a = some (.int .i64 window) := Ra.2.1 (by simp)
  have A0' : h2.cell (a.add 0) = some (.int .i64 window) := Ra.1 0 (by simp)
  have A1 : h2.cell (a.add 1) = some (.int .i64 need) := Ra.1 1 (by simp)
  have A2 : h2.cell (a.add 2) = some ev := Ra.1 2 (by simp)
  have Rev := (hev.le hle02).rules1 mapV (fun _ => rfl) 0
  rw [hel] at Rev
  have hlo : max 0 (IntKind.i64.wrap ((EL.length : Int) - window)) = ((EL.length - window : Nat) : Int) := by
    rw [w64 (by omega) (by omega)]; omega
  obtain ⟨v12, e12, hs12⟩ := (hev.le hle02).lsl (sz := 1) (fun _ => rfl) (lo := EL.length - window) (hi := EL.length) (Nat.sub_le _ _) (Nat.le_of_eq hel.symm)
  have R12 := hs12.rules1 mapV (fun _ => rfl) 0
  have hW : ((ems.take EL.length).drop (EL.length - window)).length = (EL.drop (EL.length - window)).length := by simp only [List.length_drop, List.length_take]; omega
  rw [hW] at R12
  try simp (disch := first | omega | (simp only [PL]; omega)) only [PS, P1, P2, P3, P4, P5, P6, P7, P8, PA, PB, PC, Nat.reduceAdd, Nat.reduceSub, Nat.reduceMul, Nat.reduceLeDiff, Nat.reduceEqDiff, Nat.succ_ne_self, reduceCtorEq, Int.reduceToNat, Int.cast_ofNat_Int, Int.reduceEq, Int.reduceNe, Int.reduceLT, Int.reduceLE, A0, A0', A2, Rev, hlo, e12, R12]
  obtain ⟨v12', e12', hs12'⟩ := hev.lsl (sz := 1) (fun _ => rfl) (lo := EL.length - window) (hi := EL.length) (Nat.sub_le _ _) (Nat.le_of_eq hel.symm)
  have e12e : v12 = v12' := by have h1 := e12 .i64 .i64; have h2 := e12' .i64 .i64; rw [h1] at h2; cases h2; rfl
  subst e12e
  have hbcn : bc ≠ bt := by
    obtain ⟨_, c, t, h3, _⟩ := objAt.le hc1 (fr_le h h1)
    rintro rfl; dsimp only at h3; rw [hb2] at h3; cases h3
  have hbt0 : h bt = none := le_none hle1 bt hb2
  have hwl : ∀ i, i < (EL.drop (EL.length - window)).length → EpR h (((ems.take EL.length).drop (EL.length - window)).getD i 0) (tellE ((EL.drop (EL.length - window)).getD i [])) ∧ (EL.drop (EL.length - window)).getD i [] ∈ EL := by
    intro i hi
    rw [List.length_drop] at hi
    have h1 := hE (EL.length - window + i) (by omega)
    have e1 : ((ems.take EL.length).drop (EL.length - window)).getD i 0 = ems.getD (EL.length - window + i) 0 := by
      simp only [List.getD_eq_getElem?_getD, List.getElem?_drop]
      rw [List.getElem?_take_of_lt (by omega)]
    have e2 : (EL.drop (EL.length - window)).getD i [] = EL.getD (EL.length - window + i) [] := by
      simp only [List.getD_eq_getElem?_getD, List.getElem?_drop]
    rw [e1, e2]
    exact ⟨h1, getD_mem [] (by omega)⟩
  have hWlen : (EL.drop (EL.length - window)).length ≤ 8 := by rw [List.length_drop]; omega
  have hWok : ∀ l ∈ EL.drop (EL.length - window), (∀ s ∈ l, ¬ s.bad) ∧ l.length ≤ 1000000 := fun l hl => hEok l (List.mem_of_mem_drop hl)
  have hatE : atE window need EL tag = atW need (EL.drop (EL.length - window)) tag := rfl
  generalize hWW : EL.drop (EL.length - window) = W at *
  refine i_meet_blk (fun env h3 => Heap.le h h3 ∧ objAt h3 ⟨bc, 0, none⟩ (arr fun p => (cntE W tag p : Int)) ∧ objAt h3 ⟨bt, 0, none⟩ (arr (strE W tag)) ∧ env = [some (.pointer (some a)), some (.string (Cw.str tag)), none, some (.pointer (some ⟨bc, 0, none⟩)), some (.pointer (some ⟨bt, 0, none⟩)), none, none, none, none, none, none, none, none, none, none, none, none, none, none, none, none, none, none, none, none]) ?_ ?_
  rotate_left
  · refine i_loop (fun i : Nat => [some (.pointer (some a)), some (.string (Cw.str tag)), none, some (.pointer (some ⟨bc, 0, none⟩)), some (.pointer (some ⟨bt, 0, none⟩)), none, none, none, none, none, none, none, some v12, some (.int .i64 W.length), some (.int .i64 i), none, none, none, none, none, none, none, none, none, none])
      (fun i h3 => i ≤ W.length ∧ Heap.le h h3 ∧ objAt h3 ⟨bc, 0, none⟩ (arr fun p => (cntE (W.take i) tag p : Int)) ∧ objAt h3 ⟨bt, 0, none⟩ (arr (strE (W.take i) tag)))
      (fun i => W.length - i) 0 (by try simp only [Pe, and_true, true_and, and_self]; rfl) ⟨by omega, hle02, objAt.le (objAt.le hc1 (fr_le h h1)) hle2, objAt.le ht2 (fr_le h1 h2)⟩ ?_
    rintro i h3 ⟨hi, hle3, hc3, ht3⟩
    have R3 := (hs12'.le hle3).rules1 mapV (fun _ => rfl) 0
    rw [hW] at R3
    try simp (disch := first | omega | (simp only [PL]; omega)) only [PS, P1, P2, P3, P4, P5, P6, P7, P8, PA, PB, PC, Nat.reduceAdd, Nat.reduceSub, Nat.reduceMul, Nat.reduceLeDiff, Nat.reduceEqDiff, Nat.succ_ne_self, reduceCtorEq, Int.reduceToNat, Int.cast_ofNat_Int, Int.reduceEq, Int.reduceNe, Int.reduceLT, Int.reduceLE, R3]
    refine i_cond (fun c1 => ?_) (fun c1 => ?_)
    rotate_left
    · try simp (disch := first | omega | (simp only [PL]; omega)) only [PS, P1, P2, P3, P4, P5, P6, P7, P8, PA, PB, PC, Nat.reduceAdd, Nat.reduceSub, Nat.reduceMul, Nat.reduceLeDiff, Nat.reduceEqDiff, Nat.succ_ne_self, reduceCtorEq, Int.reduceToNat, Int.cast_ofNat_Int, Int.reduceEq, Int.reduceNe, Int.reduceLT, Int.reduceLE]
      have hie : i = W.length := by omega
      subst hie
      rw [List.take_length] at hc3 ht3
      exact k_meet _ (by try simp only [Pe, and_true, true_and, and_self]) ⟨hle3, hc3, ht3, rfl⟩
    have hi2 : i < W.length := by omega
    obtain ⟨hEp, hmem⟩ := hwl i hi2
    obtain ⟨lb, ll⟩ := hEok _ hmem
    obtain ⟨kv, kbs, kck, hkm, hk1, hk2⟩ := hEp
    have Rk := (hkm.le hle3).rules .str
    have htake : W.take (i + 1) = W.take i ++ [W.getD i []] := take_succ_d [] hi2
    have hspec := tellE_spec (W.getD i [])
    generalize hl : W.getD i [] = l at *
    have hnext : ∀ h4, Heap.le h h4 → objAt h4 ⟨bc, 0, none⟩ (arr fun p => (cntE (W.take i) tag p : Int) + if seen l tag p then 1 else 0) → objAt h4 ⟨bt, 0, none⟩ (arr fun p => strE (W.take i) tag p + if seen l tag p then sumS l tag p else 0) →
        objAt h4 ⟨bc, 0, none⟩ (arr fun p => (cntE (W.take (i + 1)) tag p : Int)) ∧ objAt h4 ⟨bt, 0, none⟩ (arr (strE (W.take (i + 1)) tag)) := by
      intro h4 _ h5 h6
      constructor
      · have : arr (fun p => (cntE (W.take (i + 1)) tag p : Int)) = arr (fun p => (cntE (W.take i) tag p : Int) + if seen l tag p then 1 else 0) := by
          apply arr_congr; intro p hp
          rw [htake, cntE_snoc]; split <;> simp
        rw [this]; exact h5
      · have : arr (strE (W.take (i + 1)) tag) = arr (fun p => strE (W.take i) tag p + if seen l tag p then sumS l tag p else 0) := by
          apply arr_congr; intro p hp
          rw [htake, strE_snoc]
          by_cases hs : seen l tag p
          · rw [if_pos hs]
          · rw [if_neg hs, sumS_zero hs]
        rw [this]; exact h6
    cases hlk : look kv tag with
    | none =>
      have hnt : ∀ p, ¬ seen l tag p := by
        rintro p ⟨s, hs, h1, _⟩
        exact ((hspec.1 tag).1 ((hk1 tag).1 hlk)) ⟨s, hs, h1⟩
      try simp (disch := first | omega | (simp only [PL]; omega)) only [PS, P1, P2, P3, P4, P5, P6, P7, P8, PA, PB, PC, Nat.reduceAdd, Nat.reduceSub, Nat.reduceMul, Nat.reduceLeDiff, Nat.reduceEqDiff, Nat.succ_ne_self, reduceCtorEq, Int.reduceToNat, Int.cast_ofNat_Int, Int.reduceEq, Int.reduceNe, Int.reduceLT, Int.reduceLE, R3, mapV]
      have Rk2 := Rk.1 (.map none) tag
      rw [hlk] at Rk2
      simp only [encKS] at Rk2
      try simp (disch := first | omega | (simp only [PL]; omega)) only [PS, P1, P2, P3, P4, P5, P6, P7, P8, PA, PB, PC, Nat.reduceAdd, Nat.reduceSub, Nat.reduceMul, Nat.reduceLeDiff, Nat.reduceEqDiff, Nat.succ_ne_self, reduceCtorEq, Int.reduceToNat, Int.cast_ofNat_Int, Int.reduceEq, Int.reduceNe, Int.reduceLT, Int.reduceLE, R3, mapV, Rk2]
      refine i_rng0 fun r h4 hr hle4 hfr => ?_
      try simp (disch := first | omega | (simp only [PL]; omega)) only [PS, P1, P2, P3, P4, P5, P6, P7, P8, PA, PB, PC, Nat.reduceAdd, Nat.reduceSub, Nat.reduceMul, Nat.reduceLeDiff, Nat.reduceEqDiff, Nat.succ_ne_self, reduceCtorEq, Int.reduceToNat, Int.cast_ofNat_Int, Int.reduceEq, Int.reduceNe, Int.reduceLT, Int.reduceLE]
      refine i_loop (fun _ : Unit => [some (.pointer (some a)), some (.string (Cw.str tag)), none, some (.pointer (some ⟨bc, 0, none⟩)), some (.pointer (some ⟨bt, 0, none⟩)), none, none, none, none, none, none, none, some v12, some (.int .i64 W.length), some (.int .i64 i), none, some (.pointer (some ⟨r, 0, none⟩)), none, none, none, none, none, none, none, none]) (fun _ h5 => h5 = h4) (fun _ => 0) () (by try simp only [Pe, and_true, true_and, and_self]) rfl ?_
      rintro _ h5 rfl
      try simp (disch := first | omega | (simp only [PL]; omega)) only [PS, P1, P2, P3, P4, P5, P6, P7, P8, PA, PB, PC, Nat.reduceAdd, Nat.reduceSub, Nat.reduceMul, Nat.reduceLeDiff, Nat.reduceEqDiff, Nat.succ_ne_self, reduceCtorEq, Int.reduceToNat, Int.cast_ofNat_Int, Int.reduceEq, Int.reduceNe, Int.reduceLT, Int.reduceLE]
      refine i_nxt0 (fr_le _ _ _ _ hfr) ?_
      try simp (disch := first | omega | (simp only [PL]; omega)) only [PS, P1, P2, P3, P4, P5, P6, P7, P8, PA, PB, PC, Nat.reduceAdd, Nat.reduceSub, Nat.reduceMul, Nat.reduceLeDiff, Nat.reduceEqDiff, Nat.succ_ne_self, reduceCtorEq, Int.reduceToNat, Int.cast_ofNat_Int, Int.reduceEq, Int.reduceNe, Int.reduceLT, Int.reduceLE]
      obtain ⟨n1, n2⟩ := hnext h5 (hle3.trans hle4) (by simpa [hnt] using objAt.le hc3 hle4) (by simpa [hnt] using objAt.le ht3 hle4)
      exact k_loop (i + 1) (by omega) (by try simp only [Pe, and_true, true_and, and_self]) ⟨by omega, hle3.trans hle4, n1, n2⟩
    | some b =>
      obtain ⟨pl, bs, ck, hpl, hbm⟩ := hk2 tag b hlk
      obtain ⟨hpn, hplk⟩ := hspec.2.2 tag pl hpl
      have Rk2 := Rk.1 (.map none) tag
      rw [hlk] at Rk2
      simp only [encKS, mapV] at Rk2
      try simp (disch := first | omega | (simp only [PL]; omega)) only [PS, P1, P2, P3, P4, P5, P6, P7, P8, PA, PB, PC, Nat.reduceAdd, Nat.reduceSub, Nat.reduceMul, Nat.reduceLeDiff, Nat.reduceEqDiff, Nat.succ_ne_self, reduceCtorEq, Int.reduceToNat, Int.cast_ofNat_Int, Int.reduceEq, Int.reduceNe, Int.reduceLT, Int.reduceLE, R3, mapV, Rk2]
      obtain ⟨es, hes, hes2⟩ := hbm
      have hbm : MapB encKI encKI h b pl bs ck := ⟨es, hes, hes2⟩
      refine i_rng (hle3 _ _ hes) fun r h4 hr hle4 hit => ?_
      have hr0 : h r = none := le_none hle3 r hr
      have hle04 := hle3.trans hle4
      have hrc : r ≠ bc := by obtain ⟨_, c, t, h5, _⟩ := hc3; rintro rfl; dsimp only at h5; rw [hr] at h5; cases h5
      have hrt : r ≠ bt := by obtain ⟨_, c, t, h5, _⟩ := ht3; rintro rfl; dsimp only at h5; rw [hr] at h5; cases h5
      try simp (disch := first | omega | (simp only [PL]; omega)) only [PS, P1, P2, P3, P4, P5, P6, P7, P8, PA, PB, PC, Nat.reduceAdd, Nat.reduceSub, Nat.reduceMul, Nat.reduceLeDiff, Nat.reduceEqDiff, Nat.succ_ne_self, reduceCtorEq, Int.reduceToNat, Int.cast_ofNat_Int, Int.reduceEq, Int.reduceNe, Int.reduceLT, Int.reduceLE]
      refine i_loop (fun _ : List Nat × List (Int × Int) => [some (.pointer (some a)), some (.string (Cw.str tag)), none, some (.pointer (some ⟨bc, 0, none⟩)), some (.pointer (some ⟨bt, 0, none⟩)), none, none, none, none, none, none, none, some v12, some (.int .i64 W.length), some (.int .i64 i), none, some (.pointer (some ⟨r, 0, none⟩)), none, none, none, none, none, none, none, none]) (fun s h5 => GoneI h tag (W.take i) l pl bs b ck r bc bt s.1 s.2 h5) (fun s => todo bs s.1) ([], []) (by try simp only [Pe, and_true, true_and, and_self])
        ⟨hle04, fr_le _ _ _ _ hit, by simp, by intro i p x b _ _; simp, by simp, by simpa [look_nil] using objAt.le hc3 hle4, by simpa [look_nil] using objAt.le ht3 hle4⟩ ?_
      rintro ⟨dn, dl⟩ h5 ⟨g1, g2, g3, g4, g5, g6, g7⟩
      dsimp only at g1 g2 g3 g4 g5 g6 g7
      have hbsl : bs.length = pl.length := hes2.2.1
      try simp (disch := first | omega | (simp only [PL]; omega)) only [PS, P1, P2, P3, P4, P5, P6, P7, P8, PA, PB, PC, Nat.reduceAdd, Nat.reduceSub, Nat.reduceMul, Nat.reduceLeDiff, Nat.reduceEqDiff, Nat.succ_ne_self, reduceCtorEq, Int.reduceToNat, Int.cast_ofNat_Int, Int.reduceEq, Int.reduceNe, Int.reduceLT, Int.reduceLE]
      refine i_nxt (hbm.le g1) g2 g3 ?_ ?_
      · intro hall
        have hlook : ∀ p, look dl p = look pl p := by
          intro p
          cases hp : look pl p with
          | some x =>
            have h1 := look_mem hp
            obtain ⟨j, hj, he⟩ := List.getElem_of_mem h1
            have h2 := (g4 j p x (bs[j]'(by omega)) (by rw [List.getElem?_eq_getElem hj, he]) (by simp [hbsl, hj])).1 (hall _ (List.getElem_mem _))
            cases hd : look dl p with
            | none => exact absurd (List.mem_map.2 ⟨_, h2, rfl⟩) (look_none hd)
            | some y =>
              have h3 := g5 _ (look_mem hd)
              have h4 := look_of_mem hpn h3
              rw [hp] at h4; cases h4; rfl
          | none =>
            cases hd : look dl p with
            | none => rfl
            | some y =>
              have h4 := look_of_mem hpn (g5 _ (look_mem hd))
              rw [hp] at h4; cases h4
        try simp (disch := first | omega | (simp only [PL]; omega)) only [PS, P1, P2, P3, P4, P5, P6, P7, P8, PA, PB, PC, Nat.reduceAdd, Nat.reduceSub, Nat.reduceMul, Nat.reduceLeDiff, Nat.reduceEqDiff, Nat.succ_ne_self, reduceCtorEq, Int.reduceToNat, Int.cast_ofNat_Int, Int.reduceEq, Int.reduceNe, Int.reduceLT, Int.reduceLE]
        obtain ⟨m1, m2⟩ := hnext h5 g1 (by
          have : arr (fun p => (cntE (W.take i) tag p : Int) + if seen l tag p then 1 else 0) = arr (fun p => (cntE (W.take i) tag p : Int) + if (look dl p).isSome then 1 else 0) := by
            apply arr_congr; intro p _
            rw [hlook, hplk]; by_cases hs : seen l tag p <;> simp [hs]
          rw [this]; exact g6) (by
          have : arr (fun p => strE (W.take i) tag p + if seen l tag p then sumS l tag p else 0) = arr (fun p => strE (W.take i) tag p + (look dl p).getD 0) := by
            apply arr_congr; intro p _
            rw [hlook, hplk]; by_cases hs : seen l tag p <;> simp [hs]
          rw [this]; exact g7)
        exact k_loop (i + 1) (by omega) (by try simp only [Pe, and_true, true_and, and_self]) ⟨by omega, g1, m1, m2⟩
      · intro j b' p x hj hbj hnd
        have hpx : (p, x) ∈ pl := List.mem_of_getElem? hj
        have hpl2 := look_of_mem hpn hpx
        rw [hplk] at hpl2
        have hseen : seen l tag p := by
          by_cases hs : seen l tag p
          · exact hs
          · rw [if_neg hs] at hpl2; cases hpl2
        rw [if_pos hseen] at hpl2
        have hx : x = sumS l tag p := by cases hpl2; rfl
        obtain ⟨p0, p7⟩ := seen_place lb hseen
        obtain ⟨pn, rfl⟩ : ∃ pn : Nat, p = (pn : Int) := ⟨p.toNat, by omega⟩
        have hpn8 : pn < 8 := by omega
        have hxb := sumS_bound lb tag (pn : Int)
        have hdl : look dl (pn : Int) = none := by
          cases hd : look dl (pn : Int) with
          | none => rfl
          | some y =>
            have h3 := g5 _ (look_mem hd)
            have h4 := look_of_mem hpn h3
            rw [look_of_mem hpn hpx] at h4; cases h4
            exact absurd ((g4 j _ _ _ hj hbj).2 (look_mem hd)) hnd
        have hle5 : Heap.le h (h5.set r (.mapIter (some b) ck (dn ++ [b']).toArray ck)) := by
          intro y o hy
          have e : y ≠ r := by rintro rfl; rw [hr0] at hy; cases hy
          rw [Heap.set_ne e]; exact g1 y o hy
        have hc5 : objAt (h5.set r (.mapIter (some b) ck (dn ++ [b']).toArray ck)) ⟨bc, 0, none⟩ (arr fun p => (cntE (W.take i) tag p : Int) + if (look dl p).isSome then 1 else 0) := by
          obtain ⟨x1, c, t, x2, x3⟩ := g6; exact ⟨x1, c, t, by rw [Heap.set_ne (Ne.symm hrc)]; exact x2, x3⟩
        have ht5 : objAt (h5.set r (.mapIter (some b) ck (dn ++ [b']).toArray ck)) ⟨bt, 0, none⟩ (arr fun p => strE (W.take i) tag p + (look dl p).getD 0) := by
          obtain ⟨x1, c, t, x2, x3⟩ := g7; exact ⟨x1, c, t, by rw [Heap.set_ne (Ne.symm hrt)]; exact x2, x3⟩
        have hi5 : IterB (h5.set r (.mapIter (some b) ck (dn ++ [b']).toArray ck)) r b ck (dn ++ [b']) := Heap.set_eq
        generalize h5.set r (.mapIter (some b) ck (dn ++ [b']).toArray ck) = h6 at *
        try simp (disch := first | omega | (simp only [PL]; omega)) only [PS, P1, P2, P3, P4, P5, P6, P7, P8, PA, PB, PC, Nat.reduceAdd, Nat.reduceSub, Nat.reduceMul, Nat.reduceLeDiff, Nat.reduceEqDiff, Nat.succ_ne_self, reduceCtorEq, Int.reduceToNat, Int.cast_ofNat_Int, Int.reduceEq, Int.reduceNe, Int.reduceLT, Int.reduceLE]
        refine i_ent (hbm.le hle5) hi5 hj hbj ?_
        have Rc := hc5.rules.1 pn (by rw [arr_len]; exact hpn8)
        rw [arr_get _ hpn8, hdl] at Rc
        have Rt := ht5.rules.1 pn (by rw [arr_len]; exact hpn8)
        rw [arr_get _ hpn8, hdl] at Rt
        simp only [Option.isSome_none, Bool.false_eq_true, if_false, Int.add_zero, Option.getD_none] at Rc Rt
        have hcl := cntE_le (W.take i) tag (pn : Int)
        have hcl2 := List.length_take_le i W
        try simp (disch := first | omega | (simp only [PL]; omega)) only [PS, P1, P2, P3, P4, P5, P6, P7, P8, PA, PB, PC, Nat.reduceAdd, Nat.reduceSub, Nat.reduceMul, Nat.reduceLeDiff, Nat.reduceEqDiff, Nat.succ_ne_self, reduceCtorEq, Int.reduceToNat, Int.cast_ofNat_Int, Int.reduceEq, Int.reduceNe, Int.reduceLT, Int.reduceLE, encKI, Rc]
        refine i_st hc5 pn 1 rfl rfl (by omega) (by rw [arr_len]; omega) fun o q1 q2 => ?_
        have hc7 := q1 h6 rfl
        simp only [P8] at hc7
        rw [arr_set _ hpn8] at hc7
        have ht7 : objAt (h6.set bc o) ⟨bt, 0, none⟩ (arr fun p => strE (W.take i) tag p + (look dl p).getD 0) := by
          obtain ⟨x1, c, t, x2, x3⟩ := ht5; exact ⟨x1, c, t, by rw [Heap.set_ne (Ne.symm hbcn)]; exact x2, x3⟩
        have hi7 : IterB (h6.set bc o) r b ck (dn ++ [b']) := by unfold IterB at hi5 ⊢; rw [Heap.set_ne hrc]; exact hi5
        have hle7 : Heap.le h (h6.set bc o) := by
          intro y oo hy
          have e : y ≠ bc := by rintro rfl; rw [hb1] at hy; cases hy
          rw [Heap.set_ne e]; exact hle5 y oo hy
        have Rt7 := ht7.rules.1 pn (by rw [arr_len]; exact hpn8)
        rw [arr_get _ hpn8, hdl] at Rt7
        simp only [Int.add_zero, Option.getD_none] at Rt7
        generalize h6.set bc o = h7 at *
        have hsb := strE_bound (W := W.take i) (fun l' hl' => hWok l' (List.mem_of_mem_take hl')) tag (pn : Int)
        have hw7 : IntKind.i64.wrap (strE (W.take i) tag (pn : Int) + x) = strE (W.take i) tag (pn : Int) + x := w64 (by omega) (by omega)
        try simp (disch := first | omega | (simp only [PL]; omega)) only [PS, P1, P2, P3, P4, P5, P6, P7, P8, PA, PB, PC, Nat.reduceAdd, Nat.reduceSub, Nat.reduceMul, Nat.reduceLeDiff, Nat.reduceEqDiff, Nat.succ_ne_self, reduceCtorEq, Int.reduceToNat, Int.cast_ofNat_Int, Int.reduceEq, Int.reduceNe, Int.reduceLT, Int.reduceLE, Rt7, hw7]
        refine i_st ht7 pn 1 rfl rfl (by omega) (by rw [arr_len]; omega) fun o2 q3 q4 => ?_
        have ht8 := q3 h7 rfl
        simp only [P8] at ht8
        rw [arr_set _ hpn8] at ht8
        try simp (disch := first | omega | (simp only [PL]; omega)) only [PS, P1, P2, P3, P4, P5, P6, P7, P8, PA, PB, PC, Nat.reduceAdd, Nat.reduceSub, Nat.reduceMul, Nat.reduceLeDiff, Nat.reduceEqDiff, Nat.succ_ne_self, reduceCtorEq, Int.reduceToNat, Int.cast_ofNat_Int, Int.reduceEq, Int.reduceNe, Int.reduceLT, Int.reduceLE]
        refine k_loop (dn ++ [b'], dl ++ [((pn : Int), x)]) (todo_lt (List.mem_of_getElem? hbj) hnd) (by try simp only [Pe, and_true, true_and, and_self]) ⟨?_, ?_, ?_, ?_, ?_, ?_, ?_⟩
        · intro y oo hy
          have e : y ≠ bt := by rintro rfl; rw [hbt0] at hy; cases hy
          rw [Heap.set_ne e]; exact hle7 y oo hy
        · unfold IterB at hi7 ⊢; rw [Heap.set_ne hrt]; exact hi7
        · intro y hy; simp only [List.mem_append, List.mem_singleton] at hy
          rcases hy with hy | rfl
          · exact g3 y hy
          · exact List.mem_of_getElem? hbj
        · intro j2 p2 x2 b2 e1 e2
          simp only [List.mem_append, List.mem_singleton]
          rw [g4 j2 p2 x2 b2 e1 e2]
          have : b2 = b' ↔ (p2, x2) = ((pn : Int), x) := by
            constructor
            · rintro rfl
              have : j2 = j := ((List.getElem?_inj (List.getElem?_eq_some_iff.1 e2).1 hes2.2.2.1).1 (e2.trans hbj.symm))
              subst this; rw [e1] at hj; cases hj; rfl
            · intro e
              have h1 : (pl.map (·.1))[j2]? = some (pn : Int) := by rw [List.getElem?_map, e1]; cases e; rfl
              have h2 : (pl.map (·.1))[j]? = some (pn : Int) := by rw [List.getElem?_map, hj]; rfl
              have : j2 = j := ((List.getElem?_inj (List.getElem?_eq_some_iff.1 h1).1 hpn).1 (h1.trans h2.symm))
              subst this; rw [e2] at hbj; cases hbj; rfl
          rw [this]
        · intro e he; simp only [List.mem_append, List.mem_singleton] at he
          rcases he with he | rfl
          · exact g5 e he
          · exact hpx
        · have : arr (fun p => (cntE (W.take i) tag p : Int) + if (look (dl ++ [((pn : Int), x)]) p).isSome then 1 else 0) = arr (fun q => if q = (pn : Int) then (((cntE (W.take i) tag (pn : Int)) + 1 : Nat) : Int) else (cntE (W.take i) tag q : Int) + if (look dl q).isSome then 1 else 0) := by
            apply arr_congr; intro q _
            rw [look_snoc hdl]
            by_cases e : (q : Int) = pn
            · simp [e]
            · simp [e]
          rw [this]
          obtain ⟨x1, c, t, x2, x3⟩ := hc7; exact ⟨x1, c, t, by rw [Heap.set_ne hbcn]; exact x2, x3⟩
        · have : arr (fun p => strE (W.take i) tag p + (look (dl ++ [((pn : Int), x)]) p).getD 0) = arr (fun q => if q = (pn : Int) then strE (W.take i) tag (pn : Int) + x else strE (W.take i) tag q + (look dl q).getD 0) := by
            apply arr_congr; intro q _
            rw [look_snoc hdl]
            by_cases e : (q : Int) = pn
            · simp [e]
            · simp [e]
          rw [this]; exact ht8
  rintro env h3 ⟨hle3, hc3, ht3, rfl⟩
  have Ra3 := (ha.le hle3).rules
  have A1' : h3.cell (a.add 1) = some (.int .i64 need) := Ra3.1 1 (by simp)
  have Rc8 := hc3.rules.2.2
  rw [arr_len] at Rc8
  try simp (disch := first | omega | (simp only [PL]; omega)) only [PS, P1, P2, P3, P4, P5, P6, P7, P8, PA, PB, PC, Nat.reduceAdd, Nat.reduceSub, Nat.reduceMul, Nat.reduceLeDiff, Nat.reduceEqDiff, Nat.succ_ne_self, reduceCtorEq, Int.reduceToNat, Int.cast_ofNat_Int, Int.reduceEq, Int.reduceNe, Int.reduceLT, Int.reduceLE, Rc8]
  refine i_loop (fun p : Nat => [some (.pointer (some a)), some (.string (Cw.str tag)), none, some (.pointer (some ⟨bc, 0, none⟩)), some (.pointer (some ⟨bt, 0, none⟩)), none, none, none, none, some (.int .i64 (bestTo need (cntE W tag) (strE W tag) p)), none, none, none, none, none, none, none, none, none, none, some (.agg (arr fun p => (cntE W tag p : Int)).toArray), some (.int .i64 p), none, none, none]) (fun p h4 => p ≤ 8 ∧ h4 = h3) (fun p => 8 - p) 0 (by try simp only [Pe, and_true, true_and, and_self]; simp [bestTo]) ⟨by omega, rfl⟩ ?_
  rintro p h4 ⟨hp, rfl⟩
  try simp (disch := first | omega | (simp only [PL]; omega)) only [PS, P1, P2, P3, P4, P5, P6, P7, P8, PA, PB, PC, Nat.reduceAdd, Nat.reduceSub, Nat.reduceMul, Nat.reduceLeDiff, Nat.reduceEqDiff, Nat.succ_ne_self, reduceCtorEq, Int.reduceToNat, Int.cast_ofNat_Int, Int.reduceEq, Int.reduceNe, Int.reduceLT, Int.reduceLE]
  refine i_cond (fun c1 => ?_) (fun c1 => ?_)
  rotate_left
  · try simp (disch := first | omega | (simp only [PL]; omega)) only [PS, P1, P2, P3, P4, P5, P6, P7, P8, PA, PB, PC, Nat.reduceAdd, Nat.reduceSub, Nat.reduceMul, Nat.reduceLeDiff, Nat.reduceEqDiff, Nat.succ_ne_self, reduceCtorEq, Int.reduceToNat, Int.cast_ofNat_Int, Int.reduceEq, Int.reduceNe, Int.reduceLT, Int.reduceLE]
    have : p = 8 := by omega
    subst this
    have := hK h4 hle3
    rw [hatE] at this
    exact this
  have hp8 : p < 8 := by omega
  have hbr := bestTo_range need (cntE W tag) (strE W tag) p
  have hvx : (arr fun p => (cntE W tag p : Int)).toArray[p]? = some (.int .i64 (cntE W tag p)) := by
    rw [List.getElem?_toArray]; exact arr_get _ hp8
  try simp (disch := first | omega | (simp only [PL]; omega)) only [PS, P1, P2, P3, P4, P5, P6, P7, P8, PA, PB, PC, Nat.reduceAdd, Nat.reduceSub, Nat.reduceMul, Nat.reduceLeDiff, Nat.reduceEqDiff, Nat.succ_ne_self, reduceCtorEq, Int.reduceToNat, Int.cast_ofNat_Int, Int.reduceEq, Int.reduceNe, Int.reduceLT, Int.reduceLE, hvx, A1']
  have hbe : bestTo need (cntE W tag) (strE W tag) (p + 1) = if cntE W tag p < need then bestTo need (cntE W tag) (strE W tag) p else if bestTo need (cntE W tag) (strE W tag) p < 0 ∨ cntE W tag (bestTo need (cntE W tag) (strE W tag) p) < cntE W tag p ∨ (cntE W tag p = cntE W tag (bestTo need (cntE W tag) (strE W tag) p) ∧ strE W tag (bestTo need (cntE W tag) (strE W tag) p) < strE W tag p) then p else bestTo need (cntE W tag) (strE W tag) p := rfl
  generalize hbg : bestTo need (cntE W tag) (strE W tag) p = bb at *
  refine i_cond (fun c2 => ?_) (fun c2 => ?_)
  · try simp (disch := first | omega | (simp only [PL]; omega)) only [PS, P1, P2, P3, P4, P5, P6, P7, P8, PA, PB, PC, Nat.reduceAdd, Nat.reduceSub, Nat.reduceMul, Nat.reduceLeDiff, Nat.reduceEqDiff, Nat.succ_ne_self, reduceCtorEq, Int.reduceToNat, Int.cast_ofNat_Int, Int.reduceEq, Int.reduceNe, Int.reduceLT, Int.reduceLE]
    refine k_loop (p + 1) (by omega) ?_ ⟨by omega, rfl⟩
    try simp only [Pe, and_true, true_and, and_self]; rw [hbe, if_pos (by omega)]
  by_cases hb0 : bb < 0
  · try simp (disch := first | omega | (simp only [PL]; omega)) only [PS, P1, P2, P3, P4, P5, P6, P7, P8, PA, PB, PC, Nat.reduceAdd, Nat.reduceSub, Nat.reduceMul, Nat.reduceLeDiff, Nat.reduceEqDiff, Nat.succ_ne_self, reduceCtorEq, Int.reduceToNat, Int.cast_ofNat_Int, Int.reduceEq, Int.reduceNe, Int.reduceLT, Int.reduceLE, hb0]
    refine k_loop (p + 1) (by omega) ?_ ⟨by omega, rfl⟩
    try simp only [Pe, and_true, true_and, and_self]; rw [hbe, if_neg (by omega), if_pos (.inl hb0)]
  obtain ⟨bn, rfl⟩ : ∃ bn : Nat, bb = (bn : Int) := ⟨bb.toNat, by omega⟩
  have hbn : bn < 8 := by omega
  have Rcb := hc3.rules.1 bn (by rw [arr_len]; exact hbn)
  rw [arr_get _ hbn] at Rcb
  have Rtb := ht3.rules.1 bn (by rw [arr_len]; exact hbn)
  rw [arr_get _ hbn] at Rtb
  have Rtp := ht3.rules.1 p (by rw [arr_len]; exact hp8)
  rw [arr_get _ hp8] at Rtp
  try simp (disch := first | omega | (simp only [PL]; omega)) only [PS, P1, P2, P3, P4, P5, P6, P7, P8, PA, PB, PC, Nat.reduceAdd, Nat.reduceSub, Nat.reduceMul, Nat.reduceLeDiff, Nat.reduceEqDiff, Nat.succ_ne_self, reduceCtorEq, Int.reduceToNat, Int.cast_ofNat_Int, Int.reduceEq, Int.reduceNe, Int.reduceLT, Int.reduceLE, hb0, Rcb, Rtb, Rtp]
  refine i_cond (fun c3 => ?_) (fun c3 => ?_)
  · try simp (disch := first | omega | (simp only [PL]; omega)) only [PS, P1, P2, P3, P4, P5, P6, P7, P8, PA, PB, PC, Nat.reduceAdd, Nat.reduceSub, Nat.reduceMul, Nat.reduceLeDiff, Nat.reduceEqDiff, Nat.succ_ne_self, reduceCtorEq, Int.reduceToNat, Int.cast_ofNat_Int, Int.reduceEq, Int.reduceNe, Int.reduceLT, Int.reduceLE]
    refine k_loop (p + 1) (by omega) ?_ ⟨by omega, rfl⟩
    try simp only [Pe, and_true, true_and, and_self]; rw [hbe, if_neg (by omega), if_pos (by omega)]
  · try simp (disch := first | omega | (simp only [PL]; omega)) only [PS, P1, P2, P3, P4, P5, P6, P7, P8, PA, PB, PC, Nat.reduceAdd, Nat.reduceSub, Nat.reduceMul, Nat.reduceLeDiff, Nat.reduceEqDiff, Nat.succ_ne_self, reduceCtorEq, Int.reduceToNat, Int.cast_ofNat_Int, Int.reduceEq, Int.reduceNe, Int.reduceLT, Int.reduceLE]
    refine k_loop (p + 1) (by omega) ?_ ⟨by omega, rfl⟩
    try simp only [Pe, and_true, true_and, and_self]; rw [hbe, if_neg (by omega), if_neg (by omega)]
end Go.Cw
namespace Go.Cw
open Go

/-- an epoch's maps, while they are made -/
def EpW (g : Heap) (m : Nat) (E : Ep) : Prop := ∃ kv bs ck, MapB encKS mapV g m kv bs ck ∧ (∀ tag, look kv tag = none ↔ look E tag = none) ∧
  (∀ tag b, look kv tag = some b → b ≠ m ∧ ∃ pl bs ck, look E tag = some pl ∧ MapB encKI encKI g b pl bs ck) ∧ ∀ tag tag' b, look kv tag = some b → look kv tag' = some b → tag = tag'
theorem EpW.r {g : Heap} {m : Nat} {E : Ep} (h : EpW g m E) : EpR g m E := by
  obtain ⟨kv, bs, ck, h1, h2, h3, _⟩ := h
  exact ⟨kv, bs, ck, h1, h2, fun tag b hb => (h3 tag b hb).2⟩
theorem EpW.le {g g' : Heap} {m : Nat} {E : Ep} (h : EpW g m E) (hl : Heap.le g g') : EpW g' m E := by
  obtain ⟨kv, bs, ck, h1, h2, h3, h4⟩ := h
  exact ⟨kv, bs, ck, h1.le hl, h2, fun tag b hb => let ⟨n, pl, bs, ck, a, c⟩ := h3 tag b hb; ⟨n, pl, bs, ck, a, c.le hl⟩, h4⟩
theorem MapB.set_ne {κ ν : Type} {ek : κ → Value} {ev : ν → Value} {g : Heap} {m b : Nat} {o : Obj} {kv : List (κ × ν)} {bs : List Nat} {ck : Nat} (h : MapB ek ev g m kv bs ck) (e : m ≠ b) : MapB ek ev (g.set b o) m kv bs ck := by
  obtain ⟨es, h1, h2⟩ := h; exact ⟨es, by rw [Heap.set_ne e]; exact h1, h2⟩
theorem MapB.mem {κ ν : Type} {ek : κ → Value} {ev : ν → Value} {g : Heap} {m : Nat} {kv : List (κ × ν)} {bs : List Nat} {ck : Nat} (h : MapB ek ev g m kv bs ck) : g m ≠ none := by
  obtain ⟨es, h1, _⟩ := h; rw [h1]; simp
theorem objAt.set_ne {g : Heap} {a : Addr} {b : Nat} {o : Obj} {cs : List Value} (h : objAt g a cs) (e : a.block ≠ b) : objAt (g.set b o) a cs := by
  obtain ⟨x1, c, t, x2, x3⟩ := h; exact ⟨x1, c, t, by rw [Heap.set_ne e]; exact x2, x3⟩
theorem objAt.mem {g : Heap} {a : Addr} {cs : List Value} (h : objAt g a cs) : g a.block ≠ none := by
  obtain ⟨x1, c, t, x2, x3⟩ := h; rw [x2]; simp
theorem fr_set_new {h0 h : Heap} {b : Nat} {o : Obj} (hb : h0 b = none) : fr h0 (h.set b o) = (fr h0 h).set b o := by
  funext x
  simp only [fr, Heap.set]
  by_cases e : x = b
  · subst e; simp [hb]
  · simp [e]
theorem fr_fr {h0 h1 h2 : Heap} (hl : Heap.le h0 h1) : Heap.le (fr h1 h2) (fr h0 h2) := fr_anti (le_none hl)
theorem le_set_new {h0 h : Heap} {b : Nat} {o : Obj} (hl : Heap.le h0 h) (hb : h0 b = none) : Heap.le h0 (h.set b o) := by
  intro y oo hy
  have e : y ≠ b := by rintro rfl; rw [hb] at hy; cases hy
  rw [Heap.set_ne e]; exact hl y oo hy

theorem upd_same {κ ν : Type} [DecidableEq κ] {kv : List (κ × ν)} {k : κ} {v : ν} (h : look kv k = some v) : upd kv k v = kv := by
  induction kv with
  | nil => simp [look_nil] at h
  | cons p r ih =>
    rw [look_cons] at h
    simp only [upd]
    split
    · rename_i e; rw [if_pos e] at h; cases h; subst e; rfl
    · rename_i e; rw [if_neg e] at h; rw [ih h]
theorem upd_upd {κ ν : Type} [DecidableEq κ] (kv : List (κ × ν)) (k : κ) (v w : ν) : upd (upd kv k v) k w = upd kv k w := by
  induction kv with
  | nil => simp [upd]
  | cons p r ih =>
    simp only [upd]
    by_cases e : k = p.1
    · simp [e, upd]
    · simp [e, upd, ih]

/-- a new, empty map for a tag -/
theorem EpW.ins {g : Heap} {m b : Nat} {E : Ep} {o : Obj} {kv : List (List UInt8 × Nat)} {bs bs' : List Nat} {ck ck' : Nat} {tag : List UInt8} (hm : MapB encKS mapV g m kv bs ck) (hk : ∀ tag, look kv tag = none ↔ look E tag = none)
    (h3 : ∀ tag b, look kv tag = some b → b ≠ m ∧ ∃ pl bs ck, look E tag = some pl ∧ MapB encKI encKI g b pl bs ck) (h4 : ∀ tag tag' b, look kv tag = some b → look kv tag' = some b → tag = tag')
    (hb : MapB encKI encKI g b ([] : List (Int × Int)) [] 0) (hbm : b ≠ m) (hfresh : ∀ tag x, look kv tag = some x → x ≠ b) (hn : MapB encKS mapV (g.set m o) m (upd kv tag b) bs' ck') : EpW (g.set m o) m (upd E tag []) := by
  refine ⟨upd kv tag b, bs', ck', hn, fun t => ?_, fun t x hx => ?_, fun t t' x h1 h2 => ?_⟩
  · rw [look_upd, look_upd]; split <;> simp [hk]
  · rw [look_upd] at hx
    split at hx
    · rename_i e; cases hx; subst e
      exact ⟨hbm, [], [], 0, by rw [look_upd, if_pos rfl], hb.set_ne hbm⟩
    · rename_i e
      obtain ⟨n, pl, bs, ck, a, c⟩ := h3 t x hx
      exact ⟨n, pl, bs, ck, by rw [look_upd, if_neg e]; exact a, c.set_ne n⟩
  · rw [look_upd] at h1 h2
    split at h1 <;> split at h2
    · rename_i e1 e2; rw [e1, e2]
    · rename_i e1 e2; cases h1; exact absurd rfl (hfresh t' _ h2)
    · rename_i e1 e2; cases h2; exact absurd rfl (hfresh t _ h1)
    · exact h4 t t' x h1 h2
/-- a tag's map is written -/
theorem EpW.put {g : Heap} {m b : Nat} {E : Ep} {o : Obj} {kv : List (List UInt8 × Nat)} {bs bs' : List Nat} {ck ck' : Nat} {tag : List UInt8} {pl : List (Int × Int)} (hm : MapB encKS mapV g m kv bs ck) (hk : ∀ tag, look kv tag = none ↔ look E tag = none)
    (h3 : ∀ tag b, look kv tag = some b → b ≠ m ∧ ∃ pl bs ck, look E tag = some pl ∧ MapB encKI encKI g b pl bs ck) (h4 : ∀ tag tag' b, look kv tag = some b → look kv tag' = some b → tag = tag')
    (hb : look kv tag = some b) (hn : MapB encKI encKI (g.set b o) b pl bs' ck') : EpW (g.set b o) m (upd E tag pl) := by
  have hbm := (h3 tag b hb).1
  refine ⟨kv, bs, ck, hm.set_ne (Ne.symm hbm), fun t => ?_, fun t x hx => ?_, h4⟩
  · rw [look_upd]
    split
    · rename_i e; subst e; rw [hb]; simp
    · exact hk t
  · obtain ⟨n, pl', bs2, ck2, a, c⟩ := h3 t x hx
    refine ⟨n, ?_⟩
    by_cases e : t = tag
    · subst e
      rw [hb] at hx; cases hx
      exact ⟨pl, bs', ck', by rw [look_upd, if_pos rfl], hn⟩
    · have hne : x ≠ b := by rintro rfl; exact e (h4 t tag x hx hb)
      exact ⟨pl', bs2, ck2, by rw [look_upd, if_neg e]; exact a, c.set_ne hne⟩

def toldE (EL : List (List Si)) (tag : List UInt8) : Prop := ∃ l ∈ EL, toldIn l tag
instance (EL : List (List Si)) (tag : List UInt8) : Decidable (toldE EL tag) := by unfold toldE; infer_instance

/-- a track's own memory; 'W': what its lists of places hold; 'hole': a tag whose list is being made anew -/
structure TrG (g : Heap) (b : Nat) (window need : Nat) (EL : List (List Si)) (W : List UInt8 → Option (List Int)) (hole : Option (List UInt8)) (ev : Value) (mw : Nat) (wkv : List (List UInt8 × Value)) (bs : List Nat) (ck : Nat) (gi : Heap) (ems : List Nat) : Prop where
  obj : objAt g ⟨b, 0, none⟩ [.int .i64 window, .int .i64 need, ev, .map (some mw)]
  evs : SlB encM 1 g ev ems
  wm : MapB encKS id g mw wkv bs ck
  wnone : ∀ tag, look wkv tag = none → W tag = none
  wsome : ∀ tag v, look wkv tag = some v → some tag ≠ hole → ∃ l x, W tag = some l ∧ SlB encI 1 g v l ∧ blkOf v = some x ∧ x ≠ b ∧ x ≠ mw ∧ blkOf ev ≠ some x ∧ gi x = none
  inj : ∀ tag tag' v v', look wkv tag = some v → look wkv tag' = some v' → some tag ≠ hole → some tag' ≠ hole → blkOf v = blkOf v' → tag = tag'
  d1 : b ≠ mw
  d2 : blkOf ev ≠ some b ∧ blkOf ev ≠ some mw
  elen : ems.length = EL.length
  eps : ∀ i, i < EL.length → EpR gi (ems.getD i 0) (tellE (EL.getD i []))
  gile : Heap.le gi g
  gib : gi b = none
  gim : gi mw = none
  gie : ∀ x, blkOf ev = some x → gi x = none

theorem TrG.le {g g' : Heap} {b window need : Nat} {EL : List (List Si)} {W : List UInt8 → Option (List Int)} {hole : Option (List UInt8)} {ev : Value} {mw : Nat} {wkv : List (List UInt8 × Value)} {bs : List Nat} {ck : Nat} {gi : Heap} {ems : List Nat}
    (h : TrG g b window need EL W hole ev mw wkv bs ck gi ems) (hl : Heap.le g g') : TrG g' b window need EL W hole ev mw wkv bs ck gi ems :=
  ⟨objAt.le h.obj hl, h.evs.le hl, h.wm.le hl, h.wnone, fun t v hv hh => let ⟨l, x, a1, a2, a3⟩ := h.wsome t v hv hh; ⟨l, x, a1, a2.le hl, a3⟩, h.inj, h.d1, h.d2, h.elen, h.eps, h.gile.trans hl, h.gib, h.gim, h.gie⟩
theorem TrG.r {g : Heap} {b window need : Nat} {EL : List (List Si)} {W : List UInt8 → Option (List Int)} {hole : Option (List UInt8)} {ev : Value} {mw : Nat} {wkv : List (List UInt8 × Value)} {bs : List Nat} {ck : Nat} {gi : Heap} {ems : List Nat}
    (h : TrG g b window need EL W hole ev mw wkv bs ck gi ems) {hh : Heap} (hl : Heap.le g hh) : TrR hh ⟨b, 0, none⟩ window need EL :=
  ⟨ev, _, ems, objAt.le h.obj hl, (SlB.sl (enc := encM) (sz := 1) (fun _ => rfl) h.evs).le hl, h.elen, fun i hi => (h.eps i hi).le (h.gile.trans hl)⟩

/-- the list of a tag is laid into the map -/
theorem TrG.put {g : Heap} {b window need : Nat} {EL : List (List Si)} {W : List UInt8 → Option (List Int)} {hole : Option (List UInt8)} {ev : Value} {mw : Nat} {wkv : List (List UInt8 × Value)} {bs bs' : List Nat} {ck ck' : Nat} {gi : Heap} {ems : List Nat}
    (h : TrG g b window need EL W hole ev mw wkv bs ck gi ems) {tag : List UInt8} (hh : hole = none ∨ hole = some tag) {v : Value} {l : List Int} {x : Nat} (hv : SlB encI 1 g v l) (hx : blkOf v = some x) (x1 : x ≠ b) (x2 : x ≠ mw) (x3 : blkOf ev ≠ some x) (x4 : gi x = none)
    (x5 : ∀ t w, look wkv t = some w → t ≠ tag → blkOf w ≠ some x) {o : Obj} (hm : MapB encKS id (g.set mw o) mw (upd wkv tag v) bs' ck') :
    TrG (g.set mw o) b window need EL (fun t => if t = tag then some l else W t) none ev mw (upd wkv tag v) bs' ck' gi ems := by
  have hne : ∀ t, t ≠ tag → some t ≠ hole := by
    intro t ht e
    rcases hh with h0 | h0
    · rw [h0] at e; cases e
    · rw [h0] at e; cases e; exact ht rfl
  refine ⟨h.obj.set_ne h.d1, h.evs.same (fun y hy => Heap.set_ne (fun e => h.d2.2 (by rw [← e]; exact hy))), hm, fun t ht => ?_, fun t w hw _ => ?_, fun t t' w w' h1 h2 _ _ h3 => ?_, h.d1, h.d2, h.elen, h.eps, ?_, h.gib, h.gim, h.gie⟩
  · rw [look_upd] at ht
    split at ht
    · cases ht
    · rename_i e; simp only [e, if_false]; exact h.wnone t ht
  · rw [look_upd] at hw
    split at hw
    · rename_i e; cases hw
      exact ⟨l, x, by simp [e], hv.same (fun y hy => Heap.set_ne (fun e => x2 (by rw [hx] at hy; cases hy; exact e))), hx, x1, x2, x3, x4⟩
    · rename_i e
      obtain ⟨l', y, a1, a2, a3, a4, a5, a6⟩ := h.wsome t w hw (hne t e)
      exact ⟨l', y, by simp only [e, if_false]; exact a1, a2.same (fun z hz => Heap.set_ne (fun e2 => a5 (by rw [a3] at hz; cases hz; exact e2))), a3, a4, a5, a6⟩
  · rw [look_upd] at h1 h2
    split at h1 <;> split at h2
    · rename_i e1 e2; rw [e1, e2]
    · rename_i e1 e2; cases h1; rw [hx] at h3; exact absurd h3.symm (x5 t' w' h2 e2)
    · rename_i e1 e2; cases h2; rw [hx] at h3; exact absurd h3 (x5 t w h1 e1)
    · rename_i e1 e2; exact h.inj t t' w w' h1 h2 (hne t e1) (hne t' e2) h3
  · intro y oo hy
    have e : y ≠ mw := by rintro rfl; rw [h.gim] at hy; cases hy
    rw [Heap.set_ne e]; exact h.gile y oo hy
end Go.Cw
namespace Go.Cw
open Go

/-! one more block of one's own -/
def cell1 (r : Nat) (o : Obj) : Heap := fun x => if x = r then some o else none
theorem join_cell (r : Nat) (o : Obj) (G : Heap) : (∀ x, x ≠ r → join (cell1 r o) G x = G x) ∧ join (cell1 r o) G r = some o := by
  refine ⟨fun x hx => by simp [join, cell1, hx], by simp [join, cell1]⟩
theorem Step.cnew {g h G H H' : Heap} {r : Nat} {o : Obj} (a : Step g h G H) (hr : H r = none) (hle : Heap.le H H') (hi : H' r = some o) : Step g h (join (cell1 r o) G) H' ∧ G r = none := by
  refine ⟨⟨fun x y hx => ?_, fun x y h1 h2 => hle _ _ (a.frame x y h1 h2), fun x h1 h2 => ?_⟩, le_none a.le r hr⟩
  · by_cases e : x = r
    · subst e; rw [(join_cell _ o G).2] at hx; rw [hi]; exact hx
    · rw [(join_cell _ o G).1 x e] at hx; exact hle _ _ (a.le x y hx)
  · have e : x ≠ r := by
      rintro rfl
      cases hx : h x with
      | none => exact h1 hx
      | some y => have := a.frame x y hx h2; rw [hr] at this; cases this
    rw [(join_cell _ o G).1 x e]; exact a.fresh x h1 h2
theorem Step.cr {g h G H : Heap} {r : Nat} {o : Obj} (a : Step g h (join (cell1 r o) G) H) (hd : G r = none) : H r = some o ∧ Heap.le G H := by
  refine ⟨a.le _ _ (join_cell r o G).2, fun x y hx => ?_⟩
  have e : x ≠ r := by rintro rfl; rw [hd] at hx; cases hx
  exact a.le x y (by rw [(join_cell r o G).1 x e]; exact hx)
theorem Step.cdrop {g h G H : Heap} {r : Nat} {o : Obj} (a : Step g h (join (cell1 r o) G) H) (hd : G r = none) : Step g h G H := by
  refine ⟨(a.cr hd).2, a.frame, fun x h1 h2 => ?_⟩
  have := a.fresh x h1 h2
  by_cases e : x = r
  · rw [e]; exact hd
  · rwa [(join_cell r o G).1 x e] at this
theorem Step.cpart {g h G H G' H' : Heap} {r : Nat} {o : Obj} (a : Step g h (join (cell1 r o) G) H) (hd : G r = none) (s : Step G H G' H') : Step g h (join (cell1 r o) G') H' ∧ G' r = none := by
  have hc := (a.cr hd).1
  have hf : Heap.le (cell1 r o) H := by
    intro x y hx
    simp only [cell1] at hx
    split at hx
    · rename_i e; cases hx; subst e; exact hc
    · cases hx
  have hdj : disj (cell1 r o) G := by
    intro x hx
    simp only [cell1] at hx
    split at hx
    · rename_i e; subst e; exact hd
    · exact absurd rfl hx
  exact ⟨a.trans (s.part hf hdj), s.fresh r (by rw [hc]; simp) hd⟩
theorem Step.cset {g h G H : Heap} {r : Nat} {o : Obj} (a : Step g h (join (cell1 r o) G) H) (hd : G r = none) (o' : Obj) : Step g h (join (cell1 r o') G) (H.set r o') := by
  have := a.trans (Step.set a.le (b := r) (by rw [(join_cell r o G).2]; simp) o')
  have e : (join (cell1 r o) G).set r o' = join (cell1 r o') G := by
    funext x
    by_cases ex : x = r
    · subst ex; rw [Heap.set_eq, (join_cell _ o' G).2]
    · rw [Heap.set_ne ex, (join_cell r o G).1 x ex, (join_cell r o' G).1 x ex]
  rwa [e] at this

variable {g g' h : Heap} {b window need : Nat} {EL : List (List Si)} {W : List UInt8 → Option (List Int)} {hole : Option (List UInt8)} {ev : Value} {mw : Nat} {wkv : List (List UInt8 × Value)} {bs : List Nat} {ck : Nat} {gi gi' : Heap} {ems : List Nat}

/-- more maps of epochs, not yet an epoch's -/
theorem TrG.more (hT : TrG g b window need EL W hole ev mw wkv bs ck gi ems) (hl : Heap.le g g') (h1 : Heap.le gi gi') (h2 : Heap.le gi' g') (h3 : ∀ x, g x ≠ none → gi x = none → gi' x = none) :
    TrG g' b window need EL W hole ev mw wkv bs ck gi' ems := by
  have hT' := hT.le hl
  refine ⟨hT'.obj, hT'.evs, hT'.wm, hT.wnone, fun t v hv hh => ?_, hT.inj, hT.d1, hT.d2, hT.elen, fun i hi => (hT.eps i hi).le h1, h2, h3 _ hT.obj.mem hT.gib, h3 _ hT.wm.mem hT.gim, fun x hx => h3 _ (hT.evs.mem hx) (hT.gie x hx)⟩
  obtain ⟨l, x, a1, a2, a3, a4, a5, a6, a7⟩ := hT.wsome t v hv hh
  exact ⟨l, x, a1, a2.le hl, a3, a4, a5, a6, h3 _ (a2.mem a3) a7⟩

/-- an epoch is added -/
theorem TrG.appEv (hT : TrG g b window need EL W none ev mw wkv bs ck gi ems) (hg : Heap.le g h) {ev' : Value} {m : Nat} {l : List Si} (h1 : SlB encM 1 g' ev' (ems ++ [m]))
    (h2 : ∀ x, blkOf ev ≠ some x → blkOf ev' ≠ some x → g' x = g x) (h3 : ∀ x, blkOf ev' = some x → blkOf ev = some x ∨ h x = none) (hE : EpR gi m (tellE l)) {o : Obj}
    (ho : objAt (g'.set b o) ⟨b, 0, none⟩ [.int .i64 window, .int .i64 need, ev', .map (some mw)]) : TrG (g'.set b o) b window need (EL ++ [l]) W none ev' mw wkv bs ck gi (ems ++ [m]) := by
  have hh : ∀ x, g x ≠ none → blkOf ev ≠ some x → blkOf ev' ≠ some x := by
    intro x hx hn e
    rcases h3 x e with e2 | e2
    · exact hn e2
    · cases hgx : g x with
      | none => exact hx hgx
      | some o => rw [hg x o hgx] at e2; cases e2
  have hsm : ∀ x, g x ≠ none → blkOf ev ≠ some x → g' x = g x := fun x hx hn => h2 x hn (hh x hx hn)
  have hgb := hT.obj.mem
  have hgm := hT.wm.mem
  have hb' := hh b hgb hT.d2.1
  have hm' := hh mw hgm hT.d2.2
  refine ⟨ho, h1.same fun x hx => Heap.set_ne (fun e => hb' (by rw [← e]; exact hx)), ?_, hT.wnone, fun t v hv hh2 => ?_, hT.inj, hT.d1, ⟨hb', hm'⟩, by simp [hT.elen], fun i hi => ?_, ?_, hT.gib, hT.gim, fun x hx => ?_⟩
  · obtain ⟨es, q1, q2⟩ := hT.wm
    exact ⟨es, by rw [Heap.set_ne (Ne.symm hT.d1), hsm mw hgm hT.d2.2]; exact q1, q2⟩
  · obtain ⟨l', x, a1, a2, a3, a4, a5, a6, a7⟩ := hT.wsome t v hv hh2
    have hgx := a2.mem a3
    refine ⟨l', x, a1, a2.same fun y hy => ?_, a3, a4, a5, hh x hgx a6, a7⟩
    rw [a3] at hy; cases hy
    rw [Heap.set_ne a4]; exact hsm _ hgx a6
  · by_cases e : i < EL.length
    · have h5 : i < ems.length := by rw [hT.elen]; exact e
      have e1 : (ems ++ [m]).getD i 0 = ems.getD i 0 := by simp [List.getD_eq_getElem?_getD, List.getElem?_append_left h5]
      have e2 : (EL ++ [l]).getD i [] = EL.getD i [] := by simp [List.getD_eq_getElem?_getD, List.getElem?_append_left e]
      rw [e1, e2]; exact hT.eps i e
    · have : i = EL.length := by simp at hi; omega
      subst this
      have e1 : (ems ++ [m]).getD EL.length 0 = m := by simp [List.getD_eq_getElem?_getD, ← hT.elen]
      have e2 : (EL ++ [l]).getD EL.length [] = l := by simp [List.getD_eq_getElem?_getD]
      rw [e1, e2]; exact hE
  · intro x y hx
    have hne : x ≠ b := by rintro rfl; rw [hT.gib] at hx; cases hx
    have hgx := hT.gile x y hx
    have hev : blkOf ev ≠ some x := by intro e; rw [hT.gie x e] at hx; cases hx
    rw [Heap.set_ne hne, hsm x (by rw [hgx]; simp) hev]; exact hgx
  · rcases h3 x hx with e | e
    · exact hT.gie x e
    · cases hgx : gi x with
      | none => rfl
      | some o => rw [hg x o (hT.gile x o hgx)] at e; cases e

/-- a list that is made anew -/
def HoleV (g : Heap) (b mw : Nat) (wkv : List (List UInt8 × Value)) (ev : Value) (gi : Heap) (tag : List UInt8) (v : Value) (l : List Int) : Prop :=
  SlB encI 1 g v l ∧ ∃ x, blkOf v = some x ∧ x ≠ b ∧ x ≠ mw ∧ blkOf ev ≠ some x ∧ gi x = none ∧ ∀ t w, look wkv t = some w → t ≠ tag → blkOf w ≠ some x
theorem HoleV.le {tag : List UInt8} {v : Value} {l : List Int} (h : HoleV g b mw wkv ev gi tag v l) (hl : Heap.le g g') : HoleV g' b mw wkv ev gi tag v l := ⟨h.1.le hl, h.2⟩

theorem TrG.hole_of (hT : TrG g b window need EL W none ev mw wkv bs ck gi ems) {tag : List UInt8} {v : Value} (hv : look wkv tag = some v) :
    TrG g b window need EL W (some tag) ev mw wkv bs ck gi ems ∧ ∃ l, W tag = some l ∧ HoleV g b mw wkv ev gi tag v l := by
  refine ⟨⟨hT.obj, hT.evs, hT.wm, hT.wnone, fun t v hv _ => hT.wsome t v hv (by simp), fun t t' v v' h1 h2 _ _ h3 => hT.inj t t' v v' h1 h2 (by simp) (by simp) h3, hT.d1, hT.d2, hT.elen, hT.eps, hT.gile, hT.gib, hT.gim, hT.gie⟩, ?_⟩
  obtain ⟨l, x, a1, a2, a3, a4, a5, a6, a7⟩ := hT.wsome tag v hv (by simp)
  exact ⟨l, a1, a2, x, a3, a4, a5, a6, a7, fun t w hw hne e => hne (hT.inj t tag w v hw hv (by simp) (by simp) (by rw [e, a3]))⟩

theorem HoleV.app {tag : List UInt8} {v v' : Value} {l l2 : List Int} (hT : TrG g b window need EL W (some tag) ev mw wkv bs ck gi ems) (hH : HoleV g b mw wkv ev gi tag v l) (hg : Heap.le g h) (hne : l2 ≠ [])
    (h1 : SlB encI 1 g' v' l2) (h2 : ∀ x, blkOf v ≠ some x → blkOf v' ≠ some x → g' x = g x) (h3 : ∀ x, blkOf v' = some x → blkOf v = some x ∨ h x = none) :
    TrG g' b window need EL W (some tag) ev mw wkv bs ck gi ems ∧ HoleV g' b mw wkv ev gi tag v' l2 := by
  obtain ⟨k1, x, k2, k3, k4, k5, k6, k7⟩ := hH
  have hno : ∀ y, h y = none → g y = none := le_none hg
  have hh : ∀ y, g y ≠ none → x ≠ y → blkOf v' ≠ some y := by
    intro y hy hn e
    rcases h3 y e with e2 | e2
    · rw [k2] at e2; cases e2; exact hn rfl
    · exact hy (hno y e2)
  have hsm : ∀ y, g y ≠ none → x ≠ y → g' y = g y := fun y hy hn => h2 y (by rw [k2]; intro e; cases e; exact hn rfl) (hh y hy hn)
  have hgb := hT.obj.mem
  have hgm := hT.wm.mem
  refine ⟨⟨?_, hT.evs.same fun y hy => hsm y (hT.evs.mem hy) (by rintro rfl; exact k5 hy), ?_, hT.wnone, fun t w hw hn => ?_, hT.inj, hT.d1, hT.d2, hT.elen, hT.eps, ?_, hT.gib, hT.gim, hT.gie⟩, h1, ?_⟩
  · obtain ⟨q1, c, t, q2, q3⟩ := hT.obj
    exact ⟨q1, c, t, by rw [hsm b hgb k3]; exact q2, q3⟩
  · obtain ⟨es, q1, q2⟩ := hT.wm
    exact ⟨es, by rw [hsm mw hgm k4]; exact q1, q2⟩
  · obtain ⟨l', y, a1, a2, a3, a4⟩ := hT.wsome t w hw hn
    exact ⟨l', y, a1, a2.same fun z hz => hsm z (a2.mem hz) (by rintro rfl; exact k7 t w hw (by rintro rfl; exact hn rfl) hz), a3, a4⟩
  · intro y o hy
    have hgy := hT.gile y o hy
    rw [hsm y (by rw [hgy]; simp) (by rintro rfl; rw [k6] at hy; cases hy)]; exact hgy
  · have hx' : ∃ x', blkOf v' = some x' := by
      obtain ⟨a, cap, rfl, _, _, h5⟩ := h1
      rcases h5 with ⟨_, h6, _⟩ | ⟨y, c, t, rfl, _⟩
      · exact absurd h6 hne
      · exact ⟨y, rfl⟩
    obtain ⟨x', hx'⟩ := hx'
    refine ⟨x', hx', ?_⟩
    rcases h3 x' hx' with e | e
    · rw [k2] at e; cases e; exact ⟨k3, k4, k5, k6, k7⟩
    · have e' := hno x' e
      refine ⟨by rintro rfl; exact hgb e', by rintro rfl; exact hgm e', fun e2 => hT.evs.mem e2 e', ?_, fun t w hw hn e2 => ?_⟩
      · cases hgx : gi x' with
        | none => rfl
        | some o => rw [hT.gile x' o hgx] at e'; cases e'
      · obtain ⟨l', y, a1, a2, a3, a4⟩ := hT.wsome t w hw (by intro e3; cases e3; exact hn rfl)
        exact a2.mem e2 e'
end Go.Cw
namespace Go.Cw
open Go

def wl (window need : Nat) (EL : List (List Si)) (tag : List UInt8) : List Int := (List.range EL.length).map fun e => atE window need (EL.take (e + 1)) tag
theorem wl_snoc (window need : Nat) (EL : List (List Si)) (l : List Si) (tag : List UInt8) : wl window need EL tag ++ [atE window need (EL ++ [l]) tag] = wl window need (EL ++ [l]) tag := by
  unfold wl
  rw [List.length_append, List.length_singleton, List.range_succ, List.map_append]
  congr 1
  · refine List.map_congr_left fun e he => ?_
    rw [List.mem_range] at he
    rw [List.take_append_of_le_length (by omega)]
  · simp [List.take_of_length_le]
theorem bestTo_none {need : Nat} {cnt : Int → Nat} {st : Int → Int} (h : ∀ p, cnt p < need) (n : Nat) : bestTo need cnt st n = -1 := by
  induction n with
  | zero => rfl
  | succ n ih => simp only [bestTo]; rw [if_pos (h _)]; exact ih
theorem wl_none {window need : Nat} {EL : List (List Si)} {tag : List UInt8} (hn : 1 ≤ need) (h : ¬ toldE EL tag) : wl window need EL tag = List.replicate EL.length (-1) := by
  refine List.eq_replicate_iff.2 ⟨by simp [wl], fun x hx => ?_⟩
  obtain ⟨e, _, rfl⟩ := List.mem_map.1 hx
  refine bestTo_none (fun p => ?_) 8
  have : (((EL.take (e + 1)).drop ((EL.take (e + 1)).length - window)).filter fun l => decide (seen l tag p)) = [] := by
    rw [List.filter_eq_nil_iff]
    rintro l hl hd
    obtain ⟨s, hs, h1, _⟩ := of_decide_eq_true hd
    exact h ⟨l, List.mem_of_mem_take (List.mem_of_mem_drop hl), s, hs, h1⟩
  unfold cntE; rw [this]; exact hn
/-- a track in memory of its own -/
def TrO (g : Heap) (b window need : Nat) (EL : List (List Si)) : Prop := ∃ W ev mw wkv bs ck gi ems, TrG g b window need EL W none ev mw wkv bs ck gi ems ∧ ∀ tag, W tag = if toldE EL tag then some (wl window need EL tag) else none

theorem nodup_idx {α : Type} {l : List α} (hl : l.Nodup) {i j : Nat} {x : α} (h1 : l[i]? = some x) (h2 : l[j]? = some x) : i = j := by
  obtain ⟨a1, a2⟩ := List.getElem?_eq_some_iff.1 h1
  exact (List.getElem?_inj a1 hl).1 (h1.trans h2.symm)
def S29 (N : Num) : Spec := fun args h K => ∃ b v l g window need EL, args = [.pointer (some ⟨b, 0, none⟩), v] ∧ Sl Si.enc h v l ∧ TrO g b window need EL ∧ Heap.le g h ∧ TrOk window need EL ∧ EL.length < 100000 ∧ l.length ≤ 1000000 ∧
  ((∃ s ∈ l, s.bad) → ∀ h', Heap.le h h' → K (errV N 1) h') ∧ ((∀ s ∈ l, ¬ s.bad) → ∀ h' g', Step g h g' h' → TrO g' b window need (EL ++ [l]) → K .nilIface h')

def mapO (o : Option Nat) : Value := .map o
theorem eqv_mapo (h : Heap) (o : Option Nat) : o2V h (.eqv .map false) (.v (mapO o)) (.v (.map none)) = some (.v (.bool (decide (o = none)))) := by
  cases o <;> rfl
theorem MapB.lkpm {h : Heap} {m : Nat} {kv : List (List UInt8 × Nat)} {bs : List Nat} {ck : Nat} (hm : MapB encKS mapV h m kv bs ck) (k : List UInt8) : o2V h (.lkp .str (.map none)) (.v (.map (some m))) (.v (.string (str k))) = some (.v (mapO (look kv k))) := by
  have := (hm.rules .str).1 (.map none) k
  rw [show (Value.string (str k)) = encKS k from rfl, this]
  cases look kv k <;> rfl
theorem MapB.lkpi {h : Heap} {m : Nat} {kv : List (Int × Int)} {bs : List Nat} {ck : Nat} (hm : MapB encKI encKI h m kv bs ck) (k : Int) : o2V h (.lkp .int (.int .i64 0)) (.v (.map (some m))) (.v (.int .i64 k)) = some (.v (.int .i64 ((look kv k).getD 0))) := by
  have := (hm.rules .int).1 (.int .i64 0) k
  rw [show (Value.int .i64 k) = encKI k from rfl, this]
  cases look kv k <;> rfl
theorem MapB.lkps {h : Heap} {m : Nat} {kv : List (List UInt8 × Value)} {bs : List Nat} {ck : Nat} (hm : MapB encKS id h m kv bs ck) (k : List UInt8) : o2V h (.lkp .str (.slice none 0 0)) (.v (.map (some m))) (.v (.string (str k))) = some (.v ((look kv k).getD (.slice none 0 0))) := by
  have := (hm.rules .str).1 (.slice none 0 0) k
  rw [show (Value.string (str k)) = encKS k from rfl, this]
  cases look kv k <;> rfl
theorem eqv_slB {h : Heap} {v : Value} {l : List Int} {g : Heap} (hs : SlB encI 1 g v l) {x : Nat} (hx : blkOf v = some x) : o2V h (.eqv .slice false) (.v v) (.v (.slice none 0 0)) = some (.v (.bool false)) := by
  obtain ⟨a, cap, rfl, _⟩ := hs
  cases a with
  | none => cases hx
  | some a => rfl
theorem eqv_sl0 {h : Heap} : o2V h (.eqv .slice false) (.v (.slice none 0 0)) (.v (.slice none 0 0)) = some (.v (.bool true)) := rfl
theorem addS_eq (E : Ep) (s : Si) : addS E s = upd (upd E s.tag ((look E s.tag).getD [])) s.tag (upd ((look E s.tag).getD []) s.place ((look ((look E s.tag).getD []) s.place).getD 0 + s.strength)) := by rw [upd_upd]; rfl

theorem F29_ok {N : Num} {Γ : Ctx} [GoodC Γ] (H60 : Sat S60 (Γ 60)) : Sat (S29 N) (SF N Γ F29) := by
  rintro _ h K ⟨b, v, l, g, window, need, EL, rfl, hs, hT, hg, hok, hlen, hll, hK1, hK2⟩
  refine i_fun rfl ?_
  simp only [F29, env0, List.map, List.length, List.replicate, List.cons_append, List.nil_append, Nat.reduceSub, Nat.reduceAdd]
  try simp (disch := first | omega | (simp only [PL]; omega)) only [PS, P1, P2, P3, P4, P5, P6, P7, P8, PA, PB, PC, Nat.reduceAdd, Nat.reduceSub, Nat.reduceMul, Nat.reduceLeDiff, Nat.reduceEqDiff, Nat.succ_ne_self, reduceCtorEq, Int.reduceToNat, Int.cast_ofNat_Int, Int.reduceEq, Int.reduceNe, Int.reduceLT, Int.reduceLE]
  refine i_mnew (ek := encKS) (ev := mapV) fun m h1 hm0 hle1 hmE => ?_
  have R1 := (hs.le hle1).rules 4 Si.enc_len default
  try simp (disch := first | omega | (simp only [PL]; omega)) only [PS, P1, P2, P3, P4, P5, P6, P7, P8, PA, PB, PC, Nat.reduceAdd, Nat.reduceSub, Nat.reduceMul, Nat.reduceLeDiff, Nat.reduceEqDiff, Nat.succ_ne_self, reduceCtorEq, Int.reduceToNat, Int.cast_ofNat_Int, Int.reduceEq, Int.reduceNe, Int.reduceLT, Int.reduceLE, R1]
  -- the epoch's maps are made
  refine i_meet_blk (fun env h2 => Heap.le h h2 ∧ EpW (fr h h2) m (tellE l) ∧ (∀ s ∈ l, ¬ s.bad) ∧ env = [some (.pointer (some ⟨b, 0, none⟩)), none, none, some (.map (some m)), none, none, none, none, none, none, none, none, none, none, none, none, none, none, none, none, none, none, none, none, none, none, none, none, none, none, none, none, none, none, none, none, none, none, none, none, none, none, none, none, none]) ?_ ?_
  rotate_left
  · refine i_loop (fun i : Nat => [some (.pointer (some ⟨b, 0, none⟩)), none, none, some (.map (some m)), none, none, none, none, none, some v, some (.int .i64 l.length), some (.int .i64 i), none, none, none, none, none, none, none, none, none, none, none, none, none, none, none, none, none, none, none, none, none, none, none, none, none, none, none, none, none, none, none, none, none]) (fun i h2 => i ≤ l.length ∧ Heap.le h h2 ∧ EpW (fr h h2) m (tellE (l.take i)) ∧ ∀ s ∈ l.take i, ¬ s.bad) (fun i => l.length - i) 0 (by try simp only [Pe, and_true, true_and, and_self]; rfl)
      ⟨by omega, hle1, ⟨[], [], 0, hmE, by simp [look_nil, tellE], by simp [look_nil], by simp [look_nil]⟩, by simp⟩ ?_
    rintro i h2 ⟨hi, hle2, hE, hgood⟩
    have R2 := (hs.le hle2).rules 4 Si.enc_len default
    try simp (disch := first | omega | (simp only [PL]; omega)) only [PS, P1, P2, P3, P4, P5, P6, P7, P8, PA, PB, PC, Nat.reduceAdd, Nat.reduceSub, Nat.reduceMul, Nat.reduceLeDiff, Nat.reduceEqDiff, Nat.succ_ne_self, reduceCtorEq, Int.reduceToNat, Int.cast_ofNat_Int, Int.reduceEq, Int.reduceNe, Int.reduceLT, Int.reduceLE]
    refine i_cond (fun c1 => ?_) (fun c1 => ?_)
    rotate_left
    · try simp (disch := first | omega | (simp only [PL]; omega)) only [PS, P1, P2, P3, P4, P5, P6, P7, P8, PA, PB, PC, Nat.reduceAdd, Nat.reduceSub, Nat.reduceMul, Nat.reduceLeDiff, Nat.reduceEqDiff, Nat.succ_ne_self, reduceCtorEq, Int.reduceToNat, Int.cast_ofNat_Int, Int.reduceEq, Int.reduceNe, Int.reduceLT, Int.reduceLE]
      have : i = l.length := by omega
      subst this
      rw [List.take_length] at hE hgood
      exact k_meet _ (by try simp only [Pe, and_true, true_and, and_self]) ⟨hle2, hE, hgood, rfl⟩
    have hi2 : i < l.length := by omega
    have htk := take_succ_d default hi2 (l := l)
    try simp (disch := first | omega | (simp only [PL]; omega)) only [PS, P1, P2, P3, P4, P5, P6, P7, P8, PA, PB, PC, Nat.reduceAdd, Nat.reduceSub, Nat.reduceMul, Nat.reduceLeDiff, Nat.reduceEqDiff, Nat.succ_ne_self, reduceCtorEq, Int.reduceToNat, Int.cast_ofNat_Int, Int.reduceEq, Int.reduceNe, Int.reduceLT, Int.reduceLE, R2, Si.enc]
    refine i_cond (fun c2 => ?_) (fun c2 => ?_)
    · try simp (disch := first | omega | (simp only [PL]; omega)) only [PS, P1, P2, P3, P4, P5, P6, P7, P8, PA, PB, PC, Nat.reduceAdd, Nat.reduceSub, Nat.reduceMul, Nat.reduceLeDiff, Nat.reduceEqDiff, Nat.succ_ne_self, reduceCtorEq, Int.reduceToNat, Int.cast_ofNat_Int, Int.reduceEq, Int.reduceNe, Int.reduceLT, Int.reduceLE]
      exact hK1 ⟨_, getD_mem default hi2, by simp only [Si.bad]; omega⟩ h2 hle2
    have hsg : ¬ (l.getD i default).bad := by simp only [Si.bad]; omega
    have hgood' : ∀ s ∈ l.take (i + 1), ¬ s.bad := by
      intro s hs; rw [htk, List.mem_append, List.mem_singleton] at hs
      rcases hs with hs | rfl
      · exact hgood s hs
      · exact hsg
    have hsp := tellE_spec (l.take i)
    have hsum := fun p => sumS_bound hgood (l.getD i default).tag p
    have hti : (l.take i).length ≤ 1000000 := by rw [List.length_take]; omega
    have hE1 : tellE (l.take (i + 1)) = upd (upd (tellE (l.take i)) (l.getD i default).tag ((look (tellE (l.take i)) (l.getD i default).tag).getD [])) (l.getD i default).tag (upd ((look (tellE (l.take i)) (l.getD i default).tag).getD []) (l.getD i default).place ((look ((look (tellE (l.take i)) (l.getD i default).tag).getD []) (l.getD i default).place).getD 0 + (l.getD i default).strength)) := by
      rw [htk, tellE_snoc, addS_eq]
    generalize hx : l.getD i default = x at *
    generalize hEg : tellE (l.take i) = E at *
    obtain ⟨kv, kbs, kck, e1, e2, e3, e4⟩ := hE
    have Rk1 := (e1.le (fr_le h h2)).lkpm x.tag
    try simp (disch := first | omega | (simp only [PL]; omega)) only [PS, P1, P2, P3, P4, P5, P6, P7, P8, PA, PB, PC, Nat.reduceAdd, Nat.reduceSub, Nat.reduceMul, Nat.reduceLeDiff, Nat.reduceEqDiff, Nat.succ_ne_self, reduceCtorEq, Int.reduceToNat, Int.cast_ofNat_Int, Int.reduceEq, Int.reduceNe, Int.reduceLT, Int.reduceLE, Rk1, eqv_mapo]
    -- a tag's map, new or not
    refine i_meet_cond (fun env h3 => Heap.le h h3 ∧ EpW (fr h h3) m (upd E x.tag ((look E x.tag).getD [])) ∧ env = [some (.pointer (some ⟨b, 0, none⟩)), none, none, some (.map (some m)), some (.agg x.enc.toArray), none, none, none, none, some v, some (.int .i64 l.length), some (.int .i64 i), none, none, none, none, none, none, none, none, none, none, none, none, none, none, none, none, none, none, none, none, none, none, none, none, none, none, none, none, none, none, none, none, none]) ?_ ?_
    · rintro env h3 ⟨hle3, hE3, rfl⟩
      obtain ⟨kv3, kbs3, kck3, f1, f2, f3, f4⟩ := hE3
      have hlk : ∃ bb, look kv3 x.tag = some bb := by
        cases hh : look kv3 x.tag with
        | some bb => exact ⟨bb, rfl⟩
        | none => have := (f2 x.tag).1 hh; rw [look_upd, if_pos rfl] at this; cases this
      obtain ⟨bb, hbb⟩ := hlk
      obtain ⟨hbm, pl, pbs, pck, p1, p2⟩ := f3 x.tag bb hbb
      rw [look_upd, if_pos rfl] at p1
      have hpl : pl = (look E x.tag).getD [] := by cases p1; rfl
      have Rk3 := (f1.le (fr_le h h3)).lkpm x.tag
      rw [hbb] at Rk3
      simp only [mapO] at Rk3
      have Rp3 := (p2.le (fr_le h h3)).lkpi x.place
      have hbd : 0 ≤ (look pl x.place).getD 0 ∧ (look pl x.place).getD 0 ≤ 255000000 := by
        rw [hpl]
        cases hh : look E x.tag with
        | none => simp [look_nil]
        | some pl' =>
          simp only [Option.getD_some]
          have := (hsp.2.2 x.tag pl' hh).2 x.place
          rw [this]
          have := hsum x.place
          split <;> simp <;> omega
      have hxs : 0 ≤ x.strength ∧ x.strength ≤ 255 := by simp only [Si.bad] at hsg; omega
      have hw : IntKind.i64.wrap ((look pl x.place).getD 0 + x.strength) = (look pl x.place).getD 0 + x.strength := w64 (by omega) (by omega)
      try simp (disch := first | omega | (simp only [PL]; omega)) only [PS, P1, P2, P3, P4, P5, P6, P7, P8, PA, PB, PC, Nat.reduceAdd, Nat.reduceSub, Nat.reduceMul, Nat.reduceLeDiff, Nat.reduceEqDiff, Nat.succ_ne_self, reduceCtorEq, Int.reduceToNat, Int.cast_ofNat_Int, Int.reduceEq, Int.reduceNe, Int.reduceLT, Int.reduceLE, Rk3, Rp3, hw, Si.enc]
      have hbb0 : h bb = none := by
        cases hh : h bb with
        | none => rfl
        | some o => exact absurd (by simp [fr, hh]) p2.mem
      refine i_mupd (kb := .int) (ek := encKI) (ev := encKI) (p2.le (fr_le h h3)) (Heap.le.refl h3) x.place ((look pl x.place).getD 0 + x.strength) fun o bs' ck' q1 q2 _ => ?_
      try simp (disch := first | omega | (simp only [PL]; omega)) only [PS, P1, P2, P3, P4, P5, P6, P7, P8, PA, PB, PC, Nat.reduceAdd, Nat.reduceSub, Nat.reduceMul, Nat.reduceLeDiff, Nat.reduceEqDiff, Nat.succ_ne_self, reduceCtorEq, Int.reduceToNat, Int.cast_ofNat_Int, Int.reduceEq, Int.reduceNe, Int.reduceLT, Int.reduceLE]
      refine k_loop (i + 1) (by omega) (by try simp only [Pe, and_true, true_and, and_self]) ⟨by omega, le_set_new hle3 hbb0, ?_, hgood'⟩
      rw [fr_set_new hbb0, hE1, ← hpl]
      rw [← hpl] at f2 f3
      have q1' : MapB encKI encKI ((fr h h3).set bb o) bb (upd pl x.place ((look pl x.place).getD 0 + x.strength)) bs' ck' := by
        obtain ⟨es, a1, a2⟩ := q1
        rw [Heap.set_eq] at a1
        exact ⟨es, by rw [Heap.set_eq]; exact a1, a2⟩
      exact EpW.put f1 f2 f3 f4 hbb q1'
    · refine i_cond (fun c3 => ?_) (fun c3 => ?_)
      · try simp (disch := first | omega | (simp only [PL]; omega)) only [PS, P1, P2, P3, P4, P5, P6, P7, P8, PA, PB, PC, Nat.reduceAdd, Nat.reduceSub, Nat.reduceMul, Nat.reduceLeDiff, Nat.reduceEqDiff, Nat.succ_ne_self, reduceCtorEq, Int.reduceToNat, Int.cast_ofNat_Int, Int.reduceEq, Int.reduceNe, Int.reduceLT, Int.reduceLE, Si.enc]
        refine i_mnew (ek := encKI) (ev := encKI) fun mb h3 hb0 hle3 hbM => ?_
        try simp (disch := first | omega | (simp only [PL]; omega)) only [PS, P1, P2, P3, P4, P5, P6, P7, P8, PA, PB, PC, Nat.reduceAdd, Nat.reduceSub, Nat.reduceMul, Nat.reduceLeDiff, Nat.reduceEqDiff, Nat.succ_ne_self, reduceCtorEq, Int.reduceToNat, Int.cast_ofNat_Int, Int.reduceEq, Int.reduceNe, Int.reduceLT, Int.reduceLE]
        have hm0' : h m = none := hm0
        have e1' : MapB encKS mapV (fr h h3) m kv kbs kck := e1.le (fr_mono hle3)
        have hbM' : MapB encKI encKI (fr h h3) mb ([] : List (Int × Int)) [] 0 := hbM.le (fr_fr hle2)
        have hmbm : mb ≠ m := by rintro rfl; exact (e1.le (fr_le h h2)).mem hb0
        refine i_mupd (kb := .str) (ek := encKS) (ev := mapV) (e1'.le (fr_le h h3)) (Heap.le.refl h3) x.tag mb fun o bs' ck' q1 q2 _ => ?_
        try simp (disch := first | omega | (simp only [PL]; omega)) only [PS, P1, P2, P3, P4, P5, P6, P7, P8, PA, PB, PC, Nat.reduceAdd, Nat.reduceSub, Nat.reduceMul, Nat.reduceLeDiff, Nat.reduceEqDiff, Nat.succ_ne_self, reduceCtorEq, Int.reduceToNat, Int.cast_ofNat_Int, Int.reduceEq, Int.reduceNe, Int.reduceLT, Int.reduceLE]
        refine k_meet _ (by try simp only [Pe, and_true, true_and, and_self]) ⟨le_set_new (hle2.trans hle3) hm0, ?_, rfl⟩
        rw [fr_set_new hm0, ((e2 x.tag).1 c3)]
        have q1' : MapB encKS mapV ((fr h h3).set m o) m (upd kv x.tag mb) bs' ck' := by
          obtain ⟨es, a1, a2⟩ := q1
          rw [Heap.set_eq] at a1
          exact ⟨es, by rw [Heap.set_eq]; exact a1, a2⟩
        refine EpW.ins e1' e2 (fun t y hy => ?_) e4 hbM' hmbm (fun t y hy => ?_) q1'
        · obtain ⟨n, pl, bs, ck, a, c⟩ := e3 t y hy
          exact ⟨n, pl, bs, ck, a, c.le (fr_mono hle3)⟩
        · rintro rfl
          obtain ⟨n, pl, bs, ck, a, c⟩ := e3 t y hy
          exact (c.le (fr_le h h2)).mem hb0
      · try simp (disch := first | omega | (simp only [PL]; omega)) only [PS, P1, P2, P3, P4, P5, P6, P7, P8, PA, PB, PC, Nat.reduceAdd, Nat.reduceSub, Nat.reduceMul, Nat.reduceLeDiff, Nat.reduceEqDiff, Nat.succ_ne_self, reduceCtorEq, Int.reduceToNat, Int.cast_ofNat_Int, Int.reduceEq, Int.reduceNe, Int.reduceLT, Int.reduceLE]
        refine k_meet _ (by try simp only [Pe, and_true, true_and, and_self]; rfl) ⟨hle2, ?_, rfl⟩
        cases hh : look E x.tag with
        | none => exact absurd ((e2 x.tag).2 hh) c3
        | some pl =>
          simp only [Option.getD_some]
          rw [upd_same hh]
          exact ⟨kv, kbs, kck, e1, e2, e3, e4⟩
  · rintro env h2 ⟨hle2, hE, hgood, rfl⟩
    obtain ⟨W, ev, mw, wkv, bs, ck, gi, ems, hT, hW⟩ := hT
    have Ro := (objAt.le hT.obj (hg.trans hle2)).rules
    have A2 : h2.cell ((⟨b, 0, none⟩ : Addr).add 2) = some ev := Ro.1 2 (by simp)
    have Sev : SlB encM 1 h2 ev ems := hT.evs.le (hg.trans hle2)
    have O1 := Sev.one
    try simp (disch := first | omega | (simp only [PL]; omega)) only [PS, P1, P2, P3, P4, P5, P6, P7, P8, PA, PB, PC, Nat.reduceAdd, Nat.reduceSub, Nat.reduceMul, Nat.reduceLeDiff, Nat.reduceEqDiff, Nat.succ_ne_self, reduceCtorEq, Int.reduceToNat, Int.cast_ofNat_Int, Int.reduceEq, Int.reduceNe, Int.reduceLT, Int.reduceLE, A2, O1.1, O1.2]
    refine i_bslB encM 1 (fun _ => rfl) [m] rfl rfl (by simp [maxLen]) fun x1 b1 h3 hle3 hb1 hx1 hS1 => ?_
    have O2 := hS1.one
    try simp (disch := first | omega | (simp only [PL]; omega)) only [PS, P1, P2, P3, P4, P5, P6, P7, P8, PA, PB, PC, Nat.reduceAdd, Nat.reduceSub, Nat.reduceMul, Nat.reduceLeDiff, Nat.reduceEqDiff, Nat.succ_ne_self, reduceCtorEq, Int.reduceToNat, Int.cast_ofNat_Int, Int.reduceEq, Int.reduceNe, Int.reduceLT, Int.reduceLE, O2.1, O2.2]
    have hfr : ∀ x, g x ≠ none → gi x = none → join gi (fr h h2) x = none := by
      intro x hx hgx
      cases hg2 : g x with
      | none => exact absurd hg2 hx
      | some o => exact join_none hgx (fr_none (hg x o hg2))
    have St1 := Step.alloc hg hle2
    have hT1 : TrG (join g (fr h h2)) b window need EL W none ev mw wkv bs ck (join gi (fr h h2)) ems := by
      refine hT.more (join_l _ _) (join_l _ _) (fun x o hx => ?_) hfr
      cases hgx : gi x with
      | some o2 => rw [join_l gi _ x o2 hgx] at hx; rw [join_l g _ x o2 (hT.gile x o2 hgx)]; exact hx
      | none =>
        cases hg2 : g x with
        | some o2 => rw [hfr x (by rw [hg2]; simp) hgx] at hx; cases hx
        | none => simp only [join, hgx, hg2] at hx ⊢; exact hx
    have hg3 := St1.le.trans hle3
    refine i_appB (enc := encM) (sz := 1) (g := join g (fr h h2)) (l := ems) (l' := [m]) (fun _ => rfl) (by simp [encM, mapV, one]) hT1.evs hg3 (SlB.sl (enc := encM) (sz := 1) (fun _ => rfl) (hS1.le (fr_le _ _))) (by have := hT.elen; simp; omega) fun ev' h4 g4 hS4 St2 e1 e2 e3 => ?_
    have hob4 : objAt g4 ⟨b, 0, none⟩ [.int .i64 window, .int .i64 need, ev, .map (some mw)] := by
      obtain ⟨q1, c, t, q2, q3⟩ := hT1.obj
      refine ⟨q1, c, t, ?_, q3⟩
      have hb' : blkOf ev' ≠ some b := by
        intro e
        rcases e2 b e with h6 | h6
        · exact hT1.d2.1 h6
        · exact hT1.obj.mem (le_none hg3 b h6)
      rw [show (⟨b, 0, none⟩ : Addr).block = b from rfl, e1 b hT1.d2.1 hb']; exact q2
    have O4 := hS4.one
    try simp (disch := first | omega | (simp only [PL]; omega)) only [PS, P1, P2, P3, P4, P5, P6, P7, P8, PA, PB, PC, Nat.reduceAdd, Nat.reduceSub, Nat.reduceMul, Nat.reduceLeDiff, Nat.reduceEqDiff, Nat.succ_ne_self, reduceCtorEq, Int.reduceToNat, Int.cast_ofNat_Int, Int.reduceEq, Int.reduceNe, Int.reduceLT, Int.reduceLE]
    refine i_st (objAt.le hob4 St2.le) 2 1 (by rw [O4.2]; rfl) (by rw [O4.2]; simp [O4.1]) (by omega) (by simp) fun o k1 k2 => ?_
    have hT5 := hT1.appEv hg3 hS4 e1 e2 (hE.r.le (join_r (hT.gile.trans (hg.trans hle2)) (fr_le _ _))) (o := o) (by
      obtain ⟨q1, c, t, q2, q3⟩ := hob4
      have := k1 g4 (by rw [q2]; exact (St2.le _ _ q2).symm)
      rw [O4.2] at this; simpa using this)
    have St5 : Step g h (g4.set b o) (h4.set b o) := (St1.trans ((Step.more St1.le hle3).trans St2)).trans (Step.set St2.le hob4.mem o)
    obtain ⟨ekv, ebs, eck, n1, n2, n3⟩ := hE.r
    have n1 := n1.le (join_r (hT.gile.trans (hg.trans hle2)) (fr_le h h2))
    have nb : ebs.length = ekv.length := by obtain ⟨_, _, q⟩ := n1; exact q.2.1
    have nd : ebs.Nodup := by obtain ⟨_, _, q⟩ := n1; exact q.2.2.1
    generalize join gi (fr h h2) = gi5 at *
    generalize ems ++ [m] = ems5 at *
    generalize hg5 : g4.set b o = g5 at *
    generalize hh5 : h4.set b o = h5 at *
    clear k1 k2 hob4 e1 e2 e3 hS4 hg3 St2 hT1 hfr St1 hS1 O1 O2 O4 A2 Ro Sev hE hle3 hg5 hh5 hx1 hb1
    try simp (disch := first | omega | (simp only [PL]; omega)) only [PS, P1, P2, P3, P4, P5, P6, P7, P8, PA, PB, PC, Nat.reduceAdd, Nat.reduceSub, Nat.reduceMul, Nat.reduceLeDiff, Nat.reduceEqDiff, Nat.succ_ne_self, reduceCtorEq, Int.reduceToNat, Int.cast_ofNat_Int, Int.reduceEq, Int.reduceNe, Int.reduceLT, Int.reduceLE]
    have hm5 : ∃ es, h5 m = some (.map es eck) := by obtain ⟨es, q, _⟩ := n1; exact ⟨es, (hT5.gile.trans St5.le) _ _ q⟩
    obtain ⟨es5, hes5⟩ := hm5
    refine i_rng hes5 fun r h6 hr hle6 hit => ?_
    obtain ⟨St6, hgr⟩ := St5.cnew hr hle6 (fr_le _ _ _ _ hit)
    try simp (disch := first | omega | (simp only [PL]; omega)) only [PS, P1, P2, P3, P4, P5, P6, P7, P8, PA, PB, PC, Nat.reduceAdd, Nat.reduceSub, Nat.reduceMul, Nat.reduceLeDiff, Nat.reduceEqDiff, Nat.succ_ne_self, reduceCtorEq, Int.reduceToNat, Int.cast_ofNat_Int, Int.reduceEq, Int.reduceNe, Int.reduceLT, Int.reduceLE]
    refine i_meet_blk (fun env h7 => (∃ g7 W7 wkv7 bs7 ck7, Step g h g7 h7 ∧ TrG g7 b window need (EL ++ [l]) W7 none ev' mw wkv7 bs7 ck7 gi5 ems5 ∧ ∀ tag, W7 tag = if toldE EL tag then some (wl window need EL tag) else if toldIn l tag then some [] else none) ∧ env = [some (.pointer (some ⟨b, 0, none⟩)), none, none, none, none, none, none, none, none, none, none, none, none, none, none, none, none, none, none, none, none, none, none, none, none, none, none, none, none, none, none, none, none, none, none, none, none, none, none, none, none, none, none, none, none]) ?_ ?_
    rotate_left
    · refine i_loop (fun _ : List Nat => [some (.pointer (some ⟨b, 0, none⟩)), none, none, none, none, none, none, none, none, none, none, none, none, none, none, none, none, none, none, none, none, none, none, some (.pointer (some ⟨r, 0, none⟩)), none, none, none, none, none, none, none, none, none, none, none, none, none, none, none, none, none, none, none, none, none])
        (fun dn h7 => ∃ g7 W7 wkv7 bs7 ck7, Step g h (join (cell1 r (.mapIter (some m) eck dn.toArray eck)) g7) h7 ∧ g7 r = none ∧ TrG g7 b window need (EL ++ [l]) W7 none ev' mw wkv7 bs7 ck7 gi5 ems5 ∧ (∀ x ∈ dn, x ∈ ebs) ∧ (∀ tag, W7 tag = W tag ∨ (W tag = none ∧ W7 tag = some [] ∧ toldIn l tag)) ∧ (∀ (i : Nat) k v x, ekv[i]? = some (k, v) → ebs[i]? = some x → x ∈ dn → W7 k ≠ none))
        (fun dn => todo ebs dn) [] (by try simp only [Pe, and_true, true_and, and_self]) ⟨g5, W, wkv, bs, ck, St6, hgr, hT5, by simp, fun tag => .inl rfl, by intro i k v x _ _ h; simp at h⟩ ?_
      rintro dn h7 ⟨g7, W7, wkv7, bs7, ck7, St7, hg7, hT7, d1, d2, d3⟩
      obtain ⟨it7, hle7⟩ := St7.cr hg7
      have n7 := n1.le (hT7.gile.trans hle7)
      try simp (disch := first | omega | (simp only [PL]; omega)) only [PS, P1, P2, P3, P4, P5, P6, P7, P8, PA, PB, PC, Nat.reduceAdd, Nat.reduceSub, Nat.reduceMul, Nat.reduceLeDiff, Nat.reduceEqDiff, Nat.succ_ne_self, reduceCtorEq, Int.reduceToNat, Int.cast_ofNat_Int, Int.reduceEq, Int.reduceNe, Int.reduceLT, Int.reduceLE]
      refine i_nxt n7 it7 d1 ?_ ?_
      · intro hall
        try simp (disch := first | omega | (simp only [PL]; omega)) only [PS, P1, P2, P3, P4, P5, P6, P7, P8, PA, PB, PC, Nat.reduceAdd, Nat.reduceSub, Nat.reduceMul, Nat.reduceLeDiff, Nat.reduceEqDiff, Nat.succ_ne_self, reduceCtorEq, Int.reduceToNat, Int.cast_ofNat_Int, Int.reduceEq, Int.reduceNe, Int.reduceLT, Int.reduceLE]
        refine k_meet _ (by try simp only [Pe, and_true, true_and, and_self]) ⟨⟨g7, W7, wkv7, bs7, ck7, St7.cdrop hg7, hT7, fun tag => ?_⟩, rfl⟩
        have hWt := hW tag
        rcases d2 tag with h1 | ⟨h1, h2, h3⟩
        · rw [h1, hWt]
          by_cases e : toldE EL tag
          · rw [if_pos e, if_pos e]
          · rw [if_neg e, if_neg e]
            by_cases e2 : toldIn l tag
            · have h3 : look (tellE l) tag ≠ none := fun h4 => ((tellE_spec l).1 tag).1 h4 e2
              have h4 : look ekv tag ≠ none := fun h5 => h3 ((n2 tag).1 h5)
              cases h5 : look ekv tag with
              | none => exact absurd h5 h4
              | some v =>
                obtain ⟨j, hj, he⟩ := List.getElem_of_mem (look_mem h5)
                exact absurd (h1.trans (hWt.trans (if_neg e))) (d3 j tag v (ebs[j]'(by omega)) (by rw [List.getElem?_eq_getElem hj, he]) (by rw [List.getElem?_eq_getElem]) (hall _ (List.getElem_mem _)))
            · rw [if_neg e2]
        · have e : ¬ toldE EL tag := by intro e; rw [hWt, if_pos e] at h1; cases h1
          rw [h2, if_neg e, if_pos h3]
      · intro i x k v hi hx hnd
        have St8 := St7.cset hg7 (.mapIter (some m) eck (dn ++ [x]).toArray eck)
        obtain ⟨it8, hle8⟩ := St8.cr hg7
        generalize h7.set r (.mapIter (some m) eck (dn ++ [x]).toArray eck) = h8 at *
        try simp (disch := first | omega | (simp only [PL]; omega)) only [PS, P1, P2, P3, P4, P5, P6, P7, P8, PA, PB, PC, Nat.reduceAdd, Nat.reduceSub, Nat.reduceMul, Nat.reduceLeDiff, Nat.reduceEqDiff, Nat.succ_ne_self, reduceCtorEq, Int.reduceToNat, Int.cast_ofNat_Int, Int.reduceEq, Int.reduceNe, Int.reduceLT, Int.reduceLE]
        refine i_ent (n1.le (hT7.gile.trans hle8)) it8 hi hx ?_
        have Ro := (objAt.le hT7.obj hle8).rules
        have A3 : h8.cell ((⟨b, 0, none⟩ : Addr).add 3) = some (.map (some mw)) := Ro.1 3 (by simp)
        have Rk := (hT7.wm.le hle8).lkps k
        have hd8 : ∀ y ∈ dn ++ [x], y ∈ ebs := by
          intro y hy
          rw [List.mem_append, List.mem_singleton] at hy
          rcases hy with hy | rfl
          · exact d1 y hy
          · exact List.mem_of_getElem? hx
        have hkt : toldIn l k := by
          have h1 : look ekv k ≠ none := fun e => look_none e (List.mem_map.2 ⟨_, List.mem_of_getElem? hi, rfl⟩)
          have h2 : look (tellE l) k ≠ none := fun e => h1 ((n2 k).2 e)
          exact Classical.byContradiction fun h3 => h2 (((tellE_spec l).1 k).2 h3)
        have hmeas : todo ebs (dn ++ [x]) < todo ebs dn := todo_lt (List.mem_of_getElem? hx) hnd
        have hkey : ∀ (j : Nat) k' v' x', ekv[j]? = some (k', v') → ebs[j]? = some x' → x' ∈ dn ++ [x] → x' ∈ dn ∨ k' = k := by
          intro j k' v' x' a1 a2 a3
          rw [List.mem_append, List.mem_singleton] at a3
          refine a3.imp id ?_
          rintro rfl
          have := nodup_idx nd a2 hx
          subst this
          rw [hi] at a1; cases a1; rfl
        cases hlk : look wkv7 k with
        | some w =>
          obtain ⟨l', x', q1, q2, q3, q4⟩ := hT7.wsome k w hlk (by simp)
          rw [hlk, Option.getD_some] at Rk
          have Re := eqv_slB (h := h8) q2 q3
          try simp (disch := first | omega | (simp only [PL]; omega)) only [PS, P1, P2, P3, P4, P5, P6, P7, P8, PA, PB, PC, Nat.reduceAdd, Nat.reduceSub, Nat.reduceMul, Nat.reduceLeDiff, Nat.reduceEqDiff, Nat.succ_ne_self, reduceCtorEq, Int.reduceToNat, Int.cast_ofNat_Int, Int.reduceEq, Int.reduceNe, Int.reduceLT, Int.reduceLE, A3, encKS, Rk, Re]
          refine k_loop (dn ++ [x]) hmeas (by try simp only [Pe, and_true, true_and, and_self]) ⟨g7, W7, wkv7, bs7, ck7, St8, hg7, hT7, hd8, d2, fun j k' v' x' a1 a2 a3 => ?_⟩
          rcases hkey j k' v' x' a1 a2 a3 with h1 | rfl
          · exact d3 j k' v' x' a1 a2 h1
          · rw [q1]; simp
        | none =>
          have hWn := hT7.wnone k hlk
          rw [hlk, Option.getD_none] at Rk
          try simp (disch := first | omega | (simp only [PL]; omega)) only [PS, P1, P2, P3, P4, P5, P6, P7, P8, PA, PB, PC, Nat.reduceAdd, Nat.reduceSub, Nat.reduceMul, Nat.reduceLeDiff, Nat.reduceEqDiff, Nat.succ_ne_self, reduceCtorEq, Int.reduceToNat, Int.cast_ofNat_Int, Int.reduceEq, Int.reduceNe, Int.reduceLT, Int.reduceLE, A3, encKS, Rk, eqv_sl0, Option.isNone_none]
          refine i_bslB encI 1 (fun _ => rfl) [] rfl rfl (by simp [maxLen]) fun x1 b1 h9 hle9 hb1 hx1 hS1 => ?_
          have O1 := hS1.one
          have St9 := Step.alloc (hle8) hle9
          have hgj : Heap.le (join g7 (fr h8 h9)) h9 := St9.le
          have hT9 := hT7.le (join_l g7 (fr h8 h9))
          try simp (disch := first | omega | (simp only [PL]; omega)) only [PS, P1, P2, P3, P4, P5, P6, P7, P8, PA, PB, PC, Nat.reduceAdd, Nat.reduceSub, Nat.reduceMul, Nat.reduceLeDiff, Nat.reduceEqDiff, Nat.succ_ne_self, reduceCtorEq, Int.reduceToNat, Int.cast_ofNat_Int, Int.reduceEq, Int.reduceNe, Int.reduceLT, Int.reduceLE, O1.1, O1.2]
          refine i_mupd (kb := .str) (ek := encKS) (ev := id) hT9.wm hgj k x1 fun o bs' ck' p1 p2 _ => ?_
          have hno : ∀ y, g7 y ≠ none → y ≠ b1 := by
            rintro y hy rfl
            exact hy (le_none hle8 _ hb1)
          have hT10 := hT9.put (.inl rfl) (hS1.le (join_r (hle8.trans hle9) (fr_le _ _))) hx1 (Ne.symm (hno b hT7.obj.mem)) (Ne.symm (hno mw hT7.wm.mem)) (fun e => hno b1 (hT7.evs.mem e) rfl) (by
            cases hgx : gi5 b1 with
            | none => rfl
            | some o => exact absurd rfl (hno b1 (by rw [hT7.gile _ _ hgx]; simp))) (fun t w hw ht e => by
            obtain ⟨l', y, a1, a2, a3, _⟩ := hT7.wsome t w hw (by simp)
            exact hno b1 (a2.mem e) rfl) p1
          obtain ⟨St10, hg10⟩ := St8.cpart hg7 (St9.trans p2)
          try simp (disch := first | omega | (simp only [PL]; omega)) only [PS, P1, P2, P3, P4, P5, P6, P7, P8, PA, PB, PC, Nat.reduceAdd, Nat.reduceSub, Nat.reduceMul, Nat.reduceLeDiff, Nat.reduceEqDiff, Nat.succ_ne_self, reduceCtorEq, Int.reduceToNat, Int.cast_ofNat_Int, Int.reduceEq, Int.reduceNe, Int.reduceLT, Int.reduceLE]
          refine k_loop (dn ++ [x]) hmeas (by try simp only [Pe, and_true, true_and, and_self]) ⟨_, _, _, _, _, St10, hg10, hT10, hd8, fun tag => ?_, fun j k' v' x' a1 a2 a3 => ?_⟩
          · by_cases e : tag = k
            · subst e
              refine .inr ⟨?_, by simp, hkt⟩
              rcases d2 tag with h1 | h1
              · rw [← h1]; exact hWn
              · exact h1.1
            · simp only [e, if_false]; exact d2 tag
          · by_cases e : k' = k
            · subst e; simp
            · simp only [e, if_false]
              exact (hkey j k' v' x' a1 a2 a3).elim (fun h1 => d3 j k' v' x' a1 a2 h1) (fun h1 => absurd h1 e)
    · rintro env h7 ⟨⟨g7, W7, wkv7, bs7, ck7, St7, hT7, hW7⟩, rfl⟩
      clear n1 n2 n3 nb nd hes5 hit St6 hgr St5 hT5 hW hle6
      have Ro := (objAt.le hT7.obj St7.le).rules
      have A3 : h7.cell ((⟨b, 0, none⟩ : Addr).add 3) = some (.map (some mw)) := Ro.1 3 (by simp)
      try simp (disch := first | omega | (simp only [PL]; omega)) only [PS, P1, P2, P3, P4, P5, P6, P7, P8, PA, PB, PC, Nat.reduceAdd, Nat.reduceSub, Nat.reduceMul, Nat.reduceLeDiff, Nat.reduceEqDiff, Nat.succ_ne_self, reduceCtorEq, Int.reduceToNat, Int.cast_ofNat_Int, Int.reduceEq, Int.reduceNe, Int.reduceLT, Int.reduceLE, A3]
      have hm7 : ∃ es, h7 mw = some (.map es ck7) := by obtain ⟨es, q, _⟩ := hT7.wm; exact ⟨es, St7.le _ _ q⟩
      obtain ⟨es7, hes7⟩ := hm7
      refine i_rng hes7 fun r h8 hr hle8 hit => ?_
      obtain ⟨St8, hgr⟩ := St7.cnew hr hle8 (fr_le _ _ _ _ hit)
      try simp (disch := first | omega | (simp only [PL]; omega)) only [PS, P1, P2, P3, P4, P5, P6, P7, P8, PA, PB, PC, Nat.reduceAdd, Nat.reduceSub, Nat.reduceMul, Nat.reduceLeDiff, Nat.reduceEqDiff, Nat.succ_ne_self, reduceCtorEq, Int.reduceToNat, Int.cast_ofNat_Int, Int.reduceEq, Int.reduceNe, Int.reduceLT, Int.reduceLE]
      refine i_loop (fun _ : List Nat => [some (.pointer (some ⟨b, 0, none⟩)), none, none, none, none, none, none, none, none, none, none, none, none, none, none, none, none, none, none, none, none, none, none, none, none, none, none, none, none, none, none, some (.pointer (some ⟨r, 0, none⟩)), none, none, none, none, none, none, none, none, none, none, none, none, none])
        (fun dn h8 => ∃ g8 W8 wkv8, Step g h (join (cell1 r (.mapIter (some mw) ck7 dn.toArray ck7)) g8) h8 ∧ g8 r = none ∧ TrG g8 b window need (EL ++ [l]) W8 none ev' mw wkv8 bs7 ck7 gi5 ems5 ∧ wkv8.map (·.1) = wkv7.map (·.1) ∧ (∀ x ∈ dn, x ∈ bs7) ∧ (∀ (i : Nat) k x, (wkv7.map (·.1))[i]? = some k → bs7[i]? = some x → W8 k = if x ∈ dn then some (wl window need (EL ++ [l]) k) else W7 k))
        (fun dn => todo bs7 dn) [] (by try simp only [Pe, and_true, true_and, and_self]) ⟨g7, W7, wkv7, St8, hgr, hT7, rfl, by simp, by simp⟩ ?_
      rintro dn h8 ⟨g8, W8, wkv8, St8, hg8, hT8, hks, d1, d2⟩
      obtain ⟨it8, hle8⟩ := St8.cr hg8
      try simp (disch := first | omega | (simp only [PL]; omega)) only [PS, P1, P2, P3, P4, P5, P6, P7, P8, PA, PB, PC, Nat.reduceAdd, Nat.reduceSub, Nat.reduceMul, Nat.reduceLeDiff, Nat.reduceEqDiff, Nat.succ_ne_self, reduceCtorEq, Int.reduceToNat, Int.cast_ofNat_Int, Int.reduceEq, Int.reduceNe, Int.reduceLT, Int.reduceLE]
      refine i_nxt (hT8.wm.le hle8) it8 d1 ?_ ?_
      · intro hall
        try simp (disch := first | omega | (simp only [PL]; omega)) only [PS, P1, P2, P3, P4, P5, P6, P7, P8, PA, PB, PC, Nat.reduceAdd, Nat.reduceSub, Nat.reduceMul, Nat.reduceLeDiff, Nat.reduceEqDiff, Nat.succ_ne_self, reduceCtorEq, Int.reduceToNat, Int.cast_ofNat_Int, Int.reduceEq, Int.reduceNe, Int.reduceLT, Int.reduceLE]
        refine hK2 hgood h8 g8 (St8.cdrop hg8) ⟨W8, ev', mw, wkv8, bs7, ck7, gi5, ems5, hT8, fun tag => ?_⟩
        obtain ⟨_, _, _, w3, w4, _, w6⟩ := hT8.wm
        have h1 : toldE (EL ++ [l]) tag ↔ toldE EL tag ∨ toldIn l tag := by
          simp only [toldE, List.mem_append, List.mem_singleton]
          constructor
          · rintro ⟨x, hx | rfl, h⟩
            · exact .inl ⟨x, hx, h⟩
            · exact .inr h
          · rintro (⟨x, hx, h⟩ | h)
            · exact ⟨x, .inl hx, h⟩
            · exact ⟨l, .inr rfl, h⟩
        have hw7 := hW7 tag
        by_cases hin : tag ∈ wkv7.map (·.1)
        · obtain ⟨j, hj, he⟩ := List.getElem_of_mem hin
          have hjb : j < bs7.length := by rw [w3, ← List.length_map (f := (·.1)), hks]; exact hj
          have h2 := d2 j tag (bs7[j]) (by rw [List.getElem?_eq_getElem hj, he]) (by rw [List.getElem?_eq_getElem])
          rw [h2, if_pos (hall _ (List.getElem_mem _)), if_pos]
          rw [h1]
          refine Classical.byContradiction fun h3 => ?_
          rw [not_or] at h3
          rw [if_neg h3.1, if_neg h3.2] at hw7
          cases h5 : look wkv7 tag with
          | none => exact look_none h5 hin
          | some v =>
            obtain ⟨l', _, q, _⟩ := hT7.wsome tag v h5 (by simp)
            rw [hw7] at q; cases q
        · have hn8 : look wkv8 tag = none := by
            cases h5 : look wkv8 tag with
            | none => rfl
            | some v => exact absurd (by rw [← hks]; exact List.mem_map.2 ⟨_, look_mem h5, rfl⟩) hin
          have hn7 : look wkv7 tag = none := by
            cases h5 : look wkv7 tag with
            | none => rfl
            | some v => exact absurd (List.mem_map.2 ⟨_, look_mem h5, rfl⟩) hin
          rw [hT8.wnone tag hn8, if_neg]
          rw [h1]
          rw [hT7.wnone tag hn7] at hw7
          rintro (e | e)
          · rw [if_pos e] at hw7; cases hw7
          · rw [if_pos e] at hw7
            split at hw7 <;> cases hw7
      · intro i x k v hi hx hnd
        have St9 := St8.cset hg8 (.mapIter (some mw) ck7 (dn ++ [x]).toArray ck7)
        obtain ⟨it9, hle9⟩ := St9.cr hg8
        generalize h8.set r (.mapIter (some mw) ck7 (dn ++ [x]).toArray ck7) = h9 at *
        try simp (disch := first | omega | (simp only [PL]; omega)) only [PS, P1, P2, P3, P4, P5, P6, P7, P8, PA, PB, PC, Nat.reduceAdd, Nat.reduceSub, Nat.reduceMul, Nat.reduceLeDiff, Nat.reduceEqDiff, Nat.succ_ne_self, reduceCtorEq, Int.reduceToNat, Int.cast_ofNat_Int, Int.reduceEq, Int.reduceNe, Int.reduceLT, Int.reduceLE]
        refine i_ent (hT8.wm.le hle9) it9 hi hx ?_
        try simp (disch := first | omega | (simp only [PL]; omega)) only [PS, P1, P2, P3, P4, P5, P6, P7, P8, PA, PB, PC, Nat.reduceAdd, Nat.reduceSub, Nat.reduceMul, Nat.reduceLeDiff, Nat.reduceEqDiff, Nat.succ_ne_self, reduceCtorEq, Int.reduceToNat, Int.cast_ofNat_Int, Int.reduceEq, Int.reduceNe, Int.reduceLT, Int.reduceLE, encKS, id]
        obtain ⟨_, _, _, _, w4, _, w6⟩ := hT8.wm
        have hlk : look wkv8 k = some v := look_of_mem w6 (List.mem_of_getElem? hi)
        have hki : (wkv7.map (·.1))[i]? = some k := by rw [← hks, List.getElem?_map, hi]; rfl
        rw [hks] at w6
        obtain ⟨hT9, l0, hl0, hH9⟩ := hT8.hole_of hlk
        refine i_loop (fun s : Value × List Int => [some (.pointer (some ⟨b, 0, none⟩)), none, none, none, none, none, some (.string (str k)), some s.1, none, none, none, none, none, none, none, none, none, none, none, none, none, none, none, none, none, none, none, none, none, none, none, some (.pointer (some ⟨r, 0, none⟩)), none, none, none, none, none, none, none, none, none, none, none, none, none])
          (fun s h10 => ∃ g10, Step g h (join (cell1 r (.mapIter (some mw) ck7 (dn ++ [x]).toArray ck7)) g10) h10 ∧ g10 r = none ∧ TrG g10 b window need (EL ++ [l]) W8 (some k) ev' mw wkv8 bs7 ck7 gi5 ems5 ∧ HoleV g10 b mw wkv8 ev' gi5 k s.1 s.2 ∧ s.2.length ≤ EL.length ∧ (s.2 = wl window need EL k ∨ (¬ toldE EL k ∧ s.2 = List.replicate s.2.length (-1))))
          (fun s => EL.length - s.2.length) (v, l0) (by try simp only [Pe, and_true, true_and, and_self]) ⟨g8, St9, hg8, hT9, hH9, ?_⟩ ?_
        · have h1 := d2 i k x hki hx
          rw [if_neg hnd, hW7 k, hl0] at h1
          by_cases e : toldE EL k
          · rw [if_pos e] at h1; cases h1
            exact ⟨by simp [wl], .inl rfl⟩
          · rw [if_neg e] at h1
            by_cases e2 : toldIn l k
            · rw [if_pos e2] at h1; cases h1
              exact ⟨by simp, .inr ⟨e, rfl⟩⟩
            · rw [if_neg e2] at h1; cases h1
        rintro ⟨v1, l1⟩ h10 ⟨g10, St10, hg10, hT10, hH10, hl1, hl2⟩
        dsimp only at hH10 hl1 hl2
        obtain ⟨_, hle10⟩ := St10.cr hg10
        have Ro := (objAt.le hT10.obj hle10).rules
        have A2 : h10.cell ((⟨b, 0, none⟩ : Addr).add 2) = some ev' := Ro.1 2 (by simp)
        have Rl := ((SlB.sl (enc := encI) (sz := 1) (fun _ => rfl) (hH10.1.le hle10)).rules 1 (fun _ => rfl) default)
        have Re := ((SlB.sl (enc := encM) (sz := 1) (fun _ => rfl) (hT10.evs.le hle10)).rules 1 (fun _ => rfl) default)
        have hel := hT10.elen
        have hw : IntKind.i64.wrap ((ems5.length : Int) - 1) = (EL.length : Int) := by rw [hel]; simp only [List.length_append, List.length_cons, List.length_nil]; rw [w64 (by omega) (by omega)]; omega
        have O1 := hH10.1.one
        try simp (disch := first | omega | (simp only [PL]; omega)) only [PS, P1, P2, P3, P4, P5, P6, P7, P8, PA, PB, PC, Nat.reduceAdd, Nat.reduceSub, Nat.reduceMul, Nat.reduceLeDiff, Nat.reduceEqDiff, Nat.succ_ne_self, reduceCtorEq, Int.reduceToNat, Int.cast_ofNat_Int, Int.reduceEq, Int.reduceNe, Int.reduceLT, Int.reduceLE, A2, Rl, Re, hw]
        refine i_cond (fun c4 => ?_) (fun c4 => ?_)
        · try simp (disch := first | omega | (simp only [PL]; omega)) only [PS, P1, P2, P3, P4, P5, P6, P7, P8, PA, PB, PC, Nat.reduceAdd, Nat.reduceSub, Nat.reduceMul, Nat.reduceLeDiff, Nat.reduceEqDiff, Nat.succ_ne_self, reduceCtorEq, Int.reduceToNat, Int.cast_ofNat_Int, Int.reduceEq, Int.reduceNe, Int.reduceLT, Int.reduceLE, O1.1, O1.2]
          refine i_bslB encI 1 (fun _ => rfl) [-1] rfl rfl (by simp [maxLen]) fun x1 b1 h11 hle11 hb1 hx1 hS1 => ?_
          have O2 := hS1.one
          have hg11 := hle10.trans hle11
          try simp (disch := first | omega | (simp only [PL]; omega)) only [PS, P1, P2, P3, P4, P5, P6, P7, P8, PA, PB, PC, Nat.reduceAdd, Nat.reduceSub, Nat.reduceMul, Nat.reduceLeDiff, Nat.reduceEqDiff, Nat.succ_ne_self, reduceCtorEq, Int.reduceToNat, Int.cast_ofNat_Int, Int.reduceEq, Int.reduceNe, Int.reduceLT, Int.reduceLE, O2.1, O2.2]
          refine i_appB (enc := encI) (sz := 1) (g := g10) (l := l1) (l' := [-1]) (fun _ => rfl) (by simp [encI, one]) hH10.1 hg11 (SlB.sl (enc := encI) (sz := 1) (fun _ => rfl) (hS1.le (fr_le _ _))) (by simp; omega) fun v2 h12 g12 hS12 St12 e1 e2 e3 => ?_
          obtain ⟨hT12, hH12⟩ := HoleV.app hT10 hH10 hg11 (by simp) hS12 e1 e2
          obtain ⟨St13, hg13⟩ := St10.cpart hg10 ((Step.more hle10 hle11).trans St12)
          have O3 := hS12.one
          try simp (disch := first | omega | (simp only [PL]; omega)) only [PS, P1, P2, P3, P4, P5, P6, P7, P8, PA, PB, PC, Nat.reduceAdd, Nat.reduceSub, Nat.reduceMul, Nat.reduceLeDiff, Nat.reduceEqDiff, Nat.succ_ne_self, reduceCtorEq, Int.reduceToNat, Int.cast_ofNat_Int, Int.reduceEq, Int.reduceNe, Int.reduceLT, Int.reduceLE, O3.1, O3.2]
          refine k_loop (v2, l1 ++ [-1]) (by simp; omega) (by try simp only [Pe, and_true, true_and, and_self]) ⟨g12, St13, hg13, hT12, hH12, by simp; omega, ?_⟩
          rcases hl2 with h1 | ⟨h1, h2⟩
          · have : l1.length = EL.length := by rw [h1]; simp [wl]
            omega
          · refine .inr ⟨h1, ?_⟩
            rw [List.length_append, List.length_singleton, List.replicate_succ', ← h2]
        · have A3 : h10.cell ((⟨b, 0, none⟩ : Addr).add 3) = some (.map (some mw)) := Ro.1 3 (by simp)
          have hok' : TrOk window need (EL ++ [l]) := ⟨hok.w, hok.n, by simp; omega, fun l' hl' => by
            rw [List.mem_append, List.mem_singleton] at hl'
            rcases hl' with hl' | rfl
            · exact hok.ok l' hl'
            · exact ⟨hgood, hll⟩⟩
          try simp (disch := first | omega | (simp only [PL]; omega)) only [PS, P1, P2, P3, P4, P5, P6, P7, P8, PA, PB, PC, Nat.reduceAdd, Nat.reduceSub, Nat.reduceMul, Nat.reduceLeDiff, Nat.reduceEqDiff, Nat.succ_ne_self, reduceCtorEq, Int.reduceToNat, Int.cast_ofNat_Int, Int.reduceEq, Int.reduceNe, Int.reduceLT, Int.reduceLE, A3]
          refine i_call H60 ⟨⟨b, 0, none⟩, k, window, need, EL ++ [l], rfl, hT10.r hle10, hok', fun h11 hle11 => ?_⟩
          try simp (disch := first | omega | (simp only [PL]; omega)) only [PS, P1, P2, P3, P4, P5, P6, P7, P8, PA, PB, PC, Nat.reduceAdd, Nat.reduceSub, Nat.reduceMul, Nat.reduceLeDiff, Nat.reduceEqDiff, Nat.succ_ne_self, reduceCtorEq, Int.reduceToNat, Int.cast_ofNat_Int, Int.reduceEq, Int.reduceNe, Int.reduceLT, Int.reduceLE]
          obtain ⟨o1, ho1, hx1⟩ : ∃ o1, g10 b = some o1 ∧ objAt (cell1 b o1) ⟨b, 0, none⟩ [.int .i64 window, .int .i64 need, ev', .map (some mw)] := by
            obtain ⟨q1, c, t, q2, q3⟩ := hT10.obj
            exact ⟨_, q2, q1, c, t, by simp [cell1], q3⟩
          have hxle : ∀ {H : Heap}, H b = some o1 → Heap.le (cell1 b o1) H := by
            intro H hH y z hy
            simp only [cell1] at hy
            split at hy
            · rename_i e; cases hy; rw [e]; exact hH
            · cases hy
          have A3x : (cell1 b o1).cell ((⟨b, 0, none⟩ : Addr).add 3) = some (.map (some mw)) := hx1.rules.1 3 (by simp)
          have hb10 := hle10 _ _ ho1
          refine i_lex (cell1 b o1) (hxle hb10) ?_ (le_one (hxle (hle11 _ _ hb10))) ?_
          · intro l' hl'
            simp only [List.mem_singleton] at hl'
            subst hl'
            exact ⟨true, rfl, fun _ => ⟨.v (.map (some mw)), by try simp (disch := first | omega | (simp only [PL]; omega)) only [PS, P1, P2, P3, P4, P5, P6, P7, P8, PA, PB, PC, Nat.reduceAdd, Nat.reduceSub, Nat.reduceMul, Nat.reduceLeDiff, Nat.reduceEqDiff, Nat.succ_ne_self, reduceCtorEq, Int.reduceToNat, Int.cast_ofNat_Int, Int.reduceEq, Int.reduceNe, Int.reduceLT, Int.reduceLE, A3x]⟩⟩
          try simp (disch := first | omega | (simp only [PL]; omega)) only [PS, P1, P2, P3, P4, P5, P6, P7, P8, PA, PB, PC, Nat.reduceAdd, Nat.reduceSub, Nat.reduceMul, Nat.reduceLeDiff, Nat.reduceEqDiff, Nat.succ_ne_self, reduceCtorEq, Int.reduceToNat, Int.cast_ofNat_Int, Int.reduceEq, Int.reduceNe, Int.reduceLT, Int.reduceLE]
          refine i_bslB encI 1 (fun _ => rfl) [atE window need (EL ++ [l]) k] rfl rfl (by simp [maxLen]) fun x1 b1 h12 hle12 hb1 hx1 hS1 => ?_
          have O2 := hS1.one
          have hle1012 := hle11.trans hle12
          have hg12 := hle10.trans hle1012
          try simp (disch := first | omega | (simp only [PL]; omega)) only [PS, P1, P2, P3, P4, P5, P6, P7, P8, PA, PB, PC, Nat.reduceAdd, Nat.reduceSub, Nat.reduceMul, Nat.reduceLeDiff, Nat.reduceEqDiff, Nat.succ_ne_self, reduceCtorEq, Int.reduceToNat, Int.cast_ofNat_Int, Int.reduceEq, Int.reduceNe, Int.reduceLT, Int.reduceLE]
          refine i_lew (le_one (hxle (hle1012 _ _ hb10))) ?_
          have hvb : blkOf v1 ≠ some b := by
            obtain ⟨_, x, q1, q2, _⟩ := hH10.2
            all_goals (intro e; simp_all)
          try simp (disch := first | omega | (simp only [PL]; omega)) only [PS, P1, P2, P3, P4, P5, P6, P7, P8, PA, PB, PC, Nat.reduceAdd, Nat.reduceSub, Nat.reduceMul, Nat.reduceLeDiff, Nat.reduceEqDiff, Nat.succ_ne_self, reduceCtorEq, Int.reduceToNat, Int.cast_ofNat_Int, Int.reduceEq, Int.reduceNe, Int.reduceLT, Int.reduceLE, O1.1, O1.2, O2.1, O2.2]
          refine i_appB (enc := encI) (sz := 1) (g := g10) (l := l1) (l' := [atE window need (EL ++ [l]) k]) (fun _ => rfl) (by simp [encI, one]) hH10.1 hg12 (SlB.sl (enc := encI) (sz := 1) (fun _ => rfl) (hS1.le (fr_le _ _))) (by simp; omega) fun v2 h13 g13 hS13 St13 e1 e2 e3 => ?_
          obtain ⟨hT13, hH13⟩ := HoleV.app hT10 hH10 hg12 (by simp) hS13 e1 e2
          have O3 := hS13.one
          try simp (disch := first | omega | (simp only [PL]; omega)) only [PS, P1, P2, P3, P4, P5, P6, P7, P8, PA, PB, PC, Nat.reduceAdd, Nat.reduceSub, Nat.reduceMul, Nat.reduceLeDiff, Nat.reduceEqDiff, Nat.succ_ne_self, reduceCtorEq, Int.reduceToNat, Int.cast_ofNat_Int, Int.reduceEq, Int.reduceNe, Int.reduceLT, Int.reduceLE]
          refine i_lew (le_one (hxle (e3 _ _ (hle1012 _ _ hb10) hvb))) ?_
          try simp (disch := first | omega | (simp only [PL]; omega)) only [PS, P1, P2, P3, P4, P5, P6, P7, P8, PA, PB, PC, Nat.reduceAdd, Nat.reduceSub, Nat.reduceMul, Nat.reduceLeDiff, Nat.reduceEqDiff, Nat.succ_ne_self, reduceCtorEq, Int.reduceToNat, Int.cast_ofNat_Int, Int.reduceEq, Int.reduceNe, Int.reduceLT, Int.reduceLE, O3.1, O3.2]
          obtain ⟨hs13, y, y1, y2, y3, y4, y5, y6⟩ := hH13
          refine i_mupd (kb := .str) (ek := encKS) (ev := id) hT13.wm St13.le k v2 fun o bs' ck' p1 p2 p3 => ?_
          have hkin : k ∈ wkv8.map (·.1) := List.mem_map.2 ⟨_, List.mem_of_getElem? hi, rfl⟩
          obtain ⟨rfl, rfl⟩ := p3 hkin
          have hT14 := hT13.put (.inr rfl) hs13 y1 y2 y3 y4 y5 (fun t w hw hne => y6 t w hw hne) p1
          obtain ⟨St14, hg14⟩ := St10.cpart hg10 ((Step.more hle10 hle1012).trans (St13.trans p2))
          try simp (disch := first | omega | (simp only [PL]; omega)) only [PS, P1, P2, P3, P4, P5, P6, P7, P8, PA, PB, PC, Nat.reduceAdd, Nat.reduceSub, Nat.reduceMul, Nat.reduceLeDiff, Nat.reduceEqDiff, Nat.succ_ne_self, reduceCtorEq, Int.reduceToNat, Int.cast_ofNat_Int, Int.reduceEq, Int.reduceNe, Int.reduceLT, Int.reduceLE]
          refine k_loop (dn ++ [x]) (todo_lt (List.mem_of_getElem? hx) hnd) (by try simp only [Pe, and_true, true_and, and_self]) ⟨_, _, _, St14, hg14, hT14, ?_, ?_, ?_⟩
          · rw [upd_keys, if_pos hkin, hks]
          · intro z hz
            rw [List.mem_append, List.mem_singleton] at hz
            rcases hz with hz | rfl
            · exact d1 z hz
            · exact List.mem_of_getElem? hx
          · intro j k' x' a1 a2
            by_cases e : k' = k
            · subst e
              have hj := nodup_idx w6 a1 hki
              subst hj
              rw [hx] at a2; cases a2
              rw [if_pos rfl, if_pos (by simp), ← wl_snoc]
              rcases hl2 with h1 | ⟨h1, h2⟩
              · rw [h1]
              · rw [wl_none hok.n.1 h1, h2, show l1.length = EL.length by omega]
            · simp only [e, if_false]
              rw [d2 j k' x' a1 a2]
              have hxx : x' ≠ x := by
                rintro rfl
                have hj := nodup_idx w4 a2 hx
                subst hj
                rw [hki] at a1; cases a1; exact e rfl
              simp [hxx]
end Go.Cw
namespace Go.Cw
open Go

def newBad (w n : Int) : Prop := w < 1 ∨ 8 < w ∨ n < 1 ∨ w < n
instance (w n : Int) : Decidable (newBad w n) := by unfold newBad; infer_instance
def S28 (N : Num) : Spec := fun args h K => ∃ w n, args = [.int .i64 w, .int .i64 n] ∧
  (newBad w n → ∀ h', Heap.le h h' → K (.tuple #[.pointer none, errV N 1]) h') ∧
  (¬ newBad w n → ∀ b h', h b = none → Heap.le h h' → TrO (fr h h') b w.toNat n.toNat [] → K (.tuple #[.pointer (some ⟨b, 0, none⟩), .nilIface]) h')

theorem F28_ok {N : Num} {Γ : Ctx} [GoodC Γ] : Sat (S28 N) (SF N Γ F28) := by
  rintro _ h K ⟨w, n, rfl, hK1, hK2⟩
  refine i_fun rfl ?_
  simp only [F28, env0, List.map, List.length, List.replicate, List.cons_append, List.nil_append, Nat.reduceSub, Nat.reduceAdd]
  try simp (disch := first | omega | (simp only [PL]; omega)) only [PS, P1, P2, P3, P4, P5, P6, P7, P8, PA, PB, PC, Nat.reduceAdd, Nat.reduceSub, Nat.reduceMul, Nat.reduceLeDiff, Nat.reduceEqDiff, Nat.succ_ne_self, reduceCtorEq, Int.reduceToNat, Int.cast_ofNat_Int, Int.reduceEq, Int.reduceNe, Int.reduceLT, Int.reduceLE]
  refine i_cond (fun c1 => ?_) (fun c1 => ?_)
  · try simp (disch := first | omega | (simp only [PL]; omega)) only [PS, P1, P2, P3, P4, P5, P6, P7, P8, PA, PB, PC, Nat.reduceAdd, Nat.reduceSub, Nat.reduceMul, Nat.reduceLeDiff, Nat.reduceEqDiff, Nat.succ_ne_self, reduceCtorEq, Int.reduceToNat, Int.cast_ofNat_Int, Int.reduceEq, Int.reduceNe, Int.reduceLT, Int.reduceLE]
    exact hK1 (by unfold newBad; omega) h (Heap.le.refl h)
  · try simp (disch := first | omega | (simp only [PL]; omega)) only [PS, P1, P2, P3, P4, P5, P6, P7, P8, PA, PB, PC, Nat.reduceAdd, Nat.reduceSub, Nat.reduceMul, Nat.reduceLeDiff, Nat.reduceEqDiff, Nat.succ_ne_self, reduceCtorEq, Int.reduceToNat, Int.cast_ofNat_Int, Int.reduceEq, Int.reduceNe, Int.reduceLT, Int.reduceLE]
    refine i_mnew (ek := encKS) (ev := (id : Value → Value)) fun m h1 hm0 hle1 hmE => ?_
    try simp (disch := first | omega | (simp only [PL]; omega)) only [PS, P1, P2, P3, P4, P5, P6, P7, P8, PA, PB, PC, Nat.reduceAdd, Nat.reduceSub, Nat.reduceMul, Nat.reduceLeDiff, Nat.reduceEqDiff, Nat.succ_ne_self, reduceCtorEq, Int.reduceToNat, Int.cast_ofNat_Int, Int.reduceEq, Int.reduceNe, Int.reduceLT, Int.reduceLE]
    refine i_newO fun b h2 hle2 hb ho => ?_
    try simp (disch := first | omega | (simp only [PL]; omega)) only [PS, P1, P2, P3, P4, P5, P6, P7, P8, PA, PB, PC, Nat.reduceAdd, Nat.reduceSub, Nat.reduceMul, Nat.reduceLeDiff, Nat.reduceEqDiff, Nat.succ_ne_self, reduceCtorEq, Int.reduceToNat, Int.cast_ofNat_Int, Int.reduceEq, Int.reduceNe, Int.reduceLT, Int.reduceLE]
    simp only [newBad] at hK2
    have hbm : b ≠ m := by
      rintro rfl
      exact (hmE.le (fr_le _ _)).mem hb
    refine hK2 (by omega) b h2 (le_none hle1 b hb) (hle1.trans hle2) ⟨fun _ => none, .slice none 0 0, m, [], [], 0, fun _ => none, [], ⟨?_, SlB.nil, hmE.le (fr_mono hle2), fun _ _ => rfl, fun t v h => by simp [look_nil] at h, fun t t' v v' h => by simp [look_nil] at h, hbm, ⟨by simp [blkOf], by simp [blkOf]⟩, rfl, fun i hi => by simp at hi, fun y o hy => (by cases hy), rfl, rfl, fun _ _ => rfl⟩, fun tag => by simp [toldE]⟩
    have h3 := ho.le (fr_fr hle1)
    have e1 : ((w.toNat : Nat) : Int) = w := by omega
    have e2 : ((n.toNat : Nat) : Int) = n := by omega
    rw [e1, e2]
    exact h3
def S31 : Spec := fun args h K => ∃ g b window need EL, args = [.pointer (some ⟨b, 0, none⟩)] ∧ TrO g b window need EL ∧ Heap.le g h ∧ K (.int .i64 EL.length) h
theorem F31_ok {N : Num} {Γ : Ctx} [GoodC Γ] : Sat S31 (SF N Γ F31) := by
  rintro _ h K ⟨g, b, window, need, EL, rfl, ⟨W, ev, mw, wkv, bs, ck, gi, ems, hT, hW⟩, hg, hK⟩
  refine i_fun rfl ?_
  simp only [F31, env0, List.map, List.length, List.replicate, List.cons_append, List.nil_append, Nat.reduceSub, Nat.reduceAdd]
  have A2 : h.cell ((⟨b, 0, none⟩ : Addr).add 2) = some ev := (objAt.le hT.obj hg).rules.1 2 (by simp)
  have Re := ((SlB.sl (enc := encM) (sz := 1) (fun _ => rfl) (hT.evs.le hg)).rules 1 (fun _ => rfl) default)
  have hel := hT.elen
  try simp (disch := first | omega | (simp only [PL]; omega)) only [PS, P1, P2, P3, P4, P5, P6, P7, P8, PA, PB, PC, Nat.reduceAdd, Nat.reduceSub, Nat.reduceMul, Nat.reduceLeDiff, Nat.reduceEqDiff, Nat.succ_ne_self, reduceCtorEq, Int.reduceToNat, Int.cast_ofNat_Int, Int.reduceEq, Int.reduceNe, Int.reduceLT, Int.reduceLE, A2, Re, hel]
  exact hK
def S30 (N : Num) : Spec := fun args h K => ∃ g b window need EL tag e, args = [.pointer (some ⟨b, 0, none⟩), .string (str tag), .int .i64 e] ∧ TrO g b window need EL ∧ Heap.le g h ∧
  ((e < 0 ∨ (EL.length : Int) ≤ e) → K (.tuple #[.int .i64 0, errV N 1]) h) ∧
  (0 ≤ e → e < EL.length → ¬ toldE EL tag → K (.tuple #[.int .i64 0, errV N 5]) h) ∧
  (0 ≤ e → e < EL.length → toldE EL tag → K (.tuple #[.int .i64 (atE window need (EL.take (e.toNat + 1)) tag), .nilIface]) h)
theorem MapB.lkpos {h : Heap} {m : Nat} {kv : List (List UInt8 × Value)} {bs : List Nat} {ck : Nat} (hm : MapB encKS id h m kv bs ck) (k : List UInt8) : o2V h (.lkpo .str (.slice none 0 0)) (.v (.map (some m))) (.v (.string (str k))) = some (.v (.tuple #[(look kv k).getD (.slice none 0 0), .bool (look kv k).isSome])) := by
  have := (hm.rules .str).2.1 (.slice none 0 0) k
  rw [show (Value.string (str k)) = encKS k from rfl, this]
  cases look kv k <;> rfl
theorem F30_ok {N : Num} {Γ : Ctx} [GoodC Γ] : Sat (S30 N) (SF N Γ F30) := by
  rintro _ h K ⟨g, b, window, need, EL, tag, e, rfl, ⟨W, ev, mw, wkv, bs, ck, gi, ems, hT, hW⟩, hg, hK1, hK2, hK3⟩
  refine i_fun rfl ?_
  simp only [F30, env0, List.map, List.length, List.replicate, List.cons_append, List.nil_append, Nat.reduceSub, Nat.reduceAdd]
  have A2 : h.cell ((⟨b, 0, none⟩ : Addr).add 2) = some ev := (objAt.le hT.obj hg).rules.1 2 (by simp)
  have A3 : h.cell ((⟨b, 0, none⟩ : Addr).add 3) = some (.map (some mw)) := (objAt.le hT.obj hg).rules.1 3 (by simp)
  have Re := ((SlB.sl (enc := encM) (sz := 1) (fun _ => rfl) (hT.evs.le hg)).rules 1 (fun _ => rfl) default)
  have hel := hT.elen
  have Rk := (hT.wm.le hg).lkpos tag
  have hWt := hW tag
  try simp (disch := first | omega | (simp only [PL]; omega)) only [PS, P1, P2, P3, P4, P5, P6, P7, P8, PA, PB, PC, Nat.reduceAdd, Nat.reduceSub, Nat.reduceMul, Nat.reduceLeDiff, Nat.reduceEqDiff, Nat.succ_ne_self, reduceCtorEq, Int.reduceToNat, Int.cast_ofNat_Int, Int.reduceEq, Int.reduceNe, Int.reduceLT, Int.reduceLE, A2, Re, hel]
  refine i_cond (fun c1 => ?_) (fun c1 => ?_)
  · try simp (disch := first | omega | (simp only [PL]; omega)) only [PS, P1, P2, P3, P4, P5, P6, P7, P8, PA, PB, PC, Nat.reduceAdd, Nat.reduceSub, Nat.reduceMul, Nat.reduceLeDiff, Nat.reduceEqDiff, Nat.succ_ne_self, reduceCtorEq, Int.reduceToNat, Int.cast_ofNat_Int, Int.reduceEq, Int.reduceNe, Int.reduceLT, Int.reduceLE]
    exact hK1 (by omega)
  · cases hlk : look wkv tag with
    | none =>
      rw [hlk] at Rk
      try simp (disch := first | omega | (simp only [PL]; omega)) only [PS, P1, P2, P3, P4, P5, P6, P7, P8, PA, PB, PC, Nat.reduceAdd, Nat.reduceSub, Nat.reduceMul, Nat.reduceLeDiff, Nat.reduceEqDiff, Nat.succ_ne_self, reduceCtorEq, Int.reduceToNat, Int.cast_ofNat_Int, Int.reduceEq, Int.reduceNe, Int.reduceLT, Int.reduceLE, A3, Rk]
      refine hK2 (by omega) (by omega) fun e => ?_
      rw [hT.wnone tag hlk, if_pos e] at hWt; cases hWt
    | some v =>
      rw [hlk] at Rk
      obtain ⟨l, x, q1, q2, q3, _⟩ := hT.wsome tag v hlk (by simp)
      have Rv := ((SlB.sl (enc := encI) (sz := 1) (fun _ => rfl) (q2.le hg)).rules1 (fun n => .int .i64 n) (fun _ => rfl) default)
      have ht : toldE EL tag := by
        refine Classical.byContradiction fun h3 => ?_
        rw [if_neg h3, q1] at hWt; cases hWt
      rw [if_pos ht, q1] at hWt
      cases hWt
      obtain ⟨i, rfl⟩ : ∃ i : Nat, e = i := ⟨e.toNat, by omega⟩
      have hwl : (wl window need EL tag).length = EL.length := by simp [wl]
      have hge : (wl window need EL tag).getD i default = atE window need (EL.take (i + 1)) tag := by
        rw [List.getD_eq_getElem?_getD, List.getElem?_eq_getElem (by omega)]
        simp [wl]
      rw [hwl] at Rv
      have hi : i < EL.length := by omega
      try simp (disch := first | omega | (simp only [PL]; omega)) only [PS, P1, P2, P3, P4, P5, P6, P7, P8, PA, PB, PC, Nat.reduceAdd, Nat.reduceSub, Nat.reduceMul, Nat.reduceLeDiff, Nat.reduceEqDiff, Nat.succ_ne_self, reduceCtorEq, Int.reduceToNat, Int.cast_ofNat_Int, Int.reduceEq, Int.reduceNe, Int.reduceLT, Int.reduceLE, A3, Rk, Rv, hge, encI]
      exact hK3 (by omega) (by omega) ht
end Go.Cw
namespace Go.Cw
open Go

def encV (v : Value) : List Value := [v]
/-- a slice of slices of sights -/
def SS (h : Heap) (v : Value) (L : List (List Si)) : Prop := ∃ vs : List Value, Sl encV h v vs ∧ vs.length = L.length ∧ ∀ i, i < L.length → Sl Si.enc h (vs.getD i undef) (L.getD i [])
theorem SS.le {h h' : Heap} {v : Value} {L : List (List Si)} (hs : SS h v L) (hl : Heap.le h h') : SS h' v L := by
  obtain ⟨vs, h1, h2, h3⟩ := hs; exact ⟨vs, h1.le hl, h2, fun i hi => (h3 i hi).le hl⟩
def light (L : List (List Si)) : Prop := L.length ≤ 25 ∧ ∀ l ∈ L, l.length ≤ 25
def S12 : Spec := fun args h K => ∃ v L, args = [v] ∧ SS h v L ∧ ∀ bb : Bool, (bb = true → light L) → K (.bool bb) h
theorem F12_ok {N : Num} {Γ : Ctx} [GoodC Γ] : Sat S12 (SF N Γ F12) := by
  rintro _ h K ⟨v, L, rfl, ⟨vs, hv, hvl, hr⟩, hK⟩
  refine i_fun rfl ?_
  simp only [F12, env0, List.map, List.length, List.replicate, List.cons_append, List.nil_append, Nat.reduceSub, Nat.reduceAdd]
  have R := hv.rules1 id (fun _ => rfl) undef
  rw [hvl] at R
  try simp (disch := first | omega | (simp only [PL]; omega)) only [PS, P1, P2, P3, P4, P5, P6, P7, P8, PA, PB, PC, Nat.reduceAdd, Nat.reduceSub, Nat.reduceMul, Nat.reduceLeDiff, Nat.reduceEqDiff, Nat.succ_ne_self, reduceCtorEq, Int.reduceToNat, Int.cast_ofNat_Int, Int.reduceEq, Int.reduceNe, Int.reduceLT, Int.reduceLE, R]
  refine i_cond (fun c1 => ?_) (fun c1 => ?_)
  · try simp (disch := first | omega | (simp only [PL]; omega)) only [PS, P1, P2, P3, P4, P5, P6, P7, P8, PA, PB, PC, Nat.reduceAdd, Nat.reduceSub, Nat.reduceMul, Nat.reduceLeDiff, Nat.reduceEqDiff, Nat.succ_ne_self, reduceCtorEq, Int.reduceToNat, Int.cast_ofNat_Int, Int.reduceEq, Int.reduceNe, Int.reduceLT, Int.reduceLE]
    exact hK false (by simp)
  · try simp (disch := first | omega | (simp only [PL]; omega)) only [PS, P1, P2, P3, P4, P5, P6, P7, P8, PA, PB, PC, Nat.reduceAdd, Nat.reduceSub, Nat.reduceMul, Nat.reduceLeDiff, Nat.reduceEqDiff, Nat.succ_ne_self, reduceCtorEq, Int.reduceToNat, Int.cast_ofNat_Int, Int.reduceEq, Int.reduceNe, Int.reduceLT, Int.reduceLE]
    refine i_loop (fun i : Nat => [some v, none, some (.int .i64 i), none, none, none, none, none, none]) (fun i h1 => h1 = h ∧ i ≤ L.length ∧ ∀ l ∈ L.take i, l.length ≤ 25) (fun i => L.length - i) 0 (by try simp only [Pe, and_true, true_and, and_self]; rfl) ⟨rfl, by omega, by simp⟩ ?_
    rintro i h1 ⟨rfl, hi, hd⟩
    try simp (disch := first | omega | (simp only [PL]; omega)) only [PS, P1, P2, P3, P4, P5, P6, P7, P8, PA, PB, PC, Nat.reduceAdd, Nat.reduceSub, Nat.reduceMul, Nat.reduceLeDiff, Nat.reduceEqDiff, Nat.succ_ne_self, reduceCtorEq, Int.reduceToNat, Int.cast_ofNat_Int, Int.reduceEq, Int.reduceNe, Int.reduceLT, Int.reduceLE, R]
    refine i_cond (fun c2 => ?_) (fun c2 => ?_)
    · have hi2 : i < L.length := by omega
      have Ri := (hr i hi2).rules 4 Si.enc_len default
      try simp (disch := first | omega | (simp only [PL]; omega)) only [PS, P1, P2, P3, P4, P5, P6, P7, P8, PA, PB, PC, Nat.reduceAdd, Nat.reduceSub, Nat.reduceMul, Nat.reduceLeDiff, Nat.reduceEqDiff, Nat.succ_ne_self, reduceCtorEq, Int.reduceToNat, Int.cast_ofNat_Int, Int.reduceEq, Int.reduceNe, Int.reduceLT, Int.reduceLE, R, id, Ri]
      refine i_cond (fun c3 => ?_) (fun c3 => ?_)
      · try simp (disch := first | omega | (simp only [PL]; omega)) only [PS, P1, P2, P3, P4, P5, P6, P7, P8, PA, PB, PC, Nat.reduceAdd, Nat.reduceSub, Nat.reduceMul, Nat.reduceLeDiff, Nat.reduceEqDiff, Nat.succ_ne_self, reduceCtorEq, Int.reduceToNat, Int.cast_ofNat_Int, Int.reduceEq, Int.reduceNe, Int.reduceLT, Int.reduceLE]
        exact hK false (by simp)
      · try simp (disch := first | omega | (simp only [PL]; omega)) only [PS, P1, P2, P3, P4, P5, P6, P7, P8, PA, PB, PC, Nat.reduceAdd, Nat.reduceSub, Nat.reduceMul, Nat.reduceLeDiff, Nat.reduceEqDiff, Nat.succ_ne_self, reduceCtorEq, Int.reduceToNat, Int.cast_ofNat_Int, Int.reduceEq, Int.reduceNe, Int.reduceLT, Int.reduceLE]
        refine i_loop (fun k : Nat => [some v, none, some (.int .i64 i), some (.int .i64 k), none, none, none, none, none]) (fun k h2 => h2 = h1 ∧ k ≤ (L.getD i []).length) (fun k => (L.getD i []).length - k) 0 (by try simp only [Pe, and_true, true_and, and_self]; rfl) ⟨rfl, by omega⟩ ?_
        rintro k h2 ⟨rfl, hk⟩
        try simp (disch := first | omega | (simp only [PL]; omega)) only [PS, P1, P2, P3, P4, P5, P6, P7, P8, PA, PB, PC, Nat.reduceAdd, Nat.reduceSub, Nat.reduceMul, Nat.reduceLeDiff, Nat.reduceEqDiff, Nat.succ_ne_self, reduceCtorEq, Int.reduceToNat, Int.cast_ofNat_Int, Int.reduceEq, Int.reduceNe, Int.reduceLT, Int.reduceLE, R, id, Ri]
        refine i_cond (fun c4 => ?_) (fun c4 => ?_)
        · have hk2 : k < (L.getD i []).length := by omega
          try simp (disch := first | omega | (simp only [PL]; omega)) only [PS, P1, P2, P3, P4, P5, P6, P7, P8, PA, PB, PC, Nat.reduceAdd, Nat.reduceSub, Nat.reduceMul, Nat.reduceLeDiff, Nat.reduceEqDiff, Nat.succ_ne_self, reduceCtorEq, Int.reduceToNat, Int.cast_ofNat_Int, Int.reduceEq, Int.reduceNe, Int.reduceLT, Int.reduceLE, R, id, Ri, Si.enc]
          refine i_cond (fun c5 => ?_) (fun c5 => ?_)
          · try simp (disch := first | omega | (simp only [PL]; omega)) only [PS, P1, P2, P3, P4, P5, P6, P7, P8, PA, PB, PC, Nat.reduceAdd, Nat.reduceSub, Nat.reduceMul, Nat.reduceLeDiff, Nat.reduceEqDiff, Nat.succ_ne_self, reduceCtorEq, Int.reduceToNat, Int.cast_ofNat_Int, Int.reduceEq, Int.reduceNe, Int.reduceLT, Int.reduceLE]
            exact hK false (by simp)
          · try simp (disch := first | omega | (simp only [PL]; omega)) only [PS, P1, P2, P3, P4, P5, P6, P7, P8, PA, PB, PC, Nat.reduceAdd, Nat.reduceSub, Nat.reduceMul, Nat.reduceLeDiff, Nat.reduceEqDiff, Nat.succ_ne_self, reduceCtorEq, Int.reduceToNat, Int.cast_ofNat_Int, Int.reduceEq, Int.reduceNe, Int.reduceLT, Int.reduceLE]
            exact k_loop (k + 1) (by omega) (by try simp only [Pe, and_true, true_and, and_self]) ⟨rfl, by omega⟩
        · try simp (disch := first | omega | (simp only [PL]; omega)) only [PS, P1, P2, P3, P4, P5, P6, P7, P8, PA, PB, PC, Nat.reduceAdd, Nat.reduceSub, Nat.reduceMul, Nat.reduceLeDiff, Nat.reduceEqDiff, Nat.succ_ne_self, reduceCtorEq, Int.reduceToNat, Int.cast_ofNat_Int, Int.reduceEq, Int.reduceNe, Int.reduceLT, Int.reduceLE]
          refine k_loop (i + 1) (by omega) (by try simp only [Pe, and_true, true_and, and_self]) ⟨rfl, by omega, ?_⟩
          intro l hl
          rw [take_succ_d [] hi2, List.mem_append, List.mem_singleton] at hl
          rcases hl with hl | rfl
          · exact hd l hl
          · omega
    · try simp (disch := first | omega | (simp only [PL]; omega)) only [PS, P1, P2, P3, P4, P5, P6, P7, P8, PA, PB, PC, Nat.reduceAdd, Nat.reduceSub, Nat.reduceMul, Nat.reduceLeDiff, Nat.reduceEqDiff, Nat.succ_ne_self, reduceCtorEq, Int.reduceToNat, Int.cast_ofNat_Int, Int.reduceEq, Int.reduceNe, Int.reduceLT, Int.reduceLE]
      have : i = L.length := by omega
      subst this
      rw [List.take_length] at hd
      exact hK true (fun _ => ⟨by omega, hd⟩)
end Go.Cw
/- TopTrack: the plain law. -/
namespace Go.Cw
open Go

def mine (who : List UInt8) (l : List Si) : List Si := (l.filter fun s => decide (s.tag = who)).reverse
theorem mem_mine {who : List UInt8} {l : List Si} {s : Si} : s ∈ mine who l ↔ s ∈ l ∧ s.tag = who := by simp [mine]
theorem seen_mine (who : List UInt8) (l : List Si) (p : Int) : seen (mine who l) who p ↔ seen l who p := by
  simp only [seen, mem_mine]
  exact ⟨fun ⟨s, ⟨h1, _⟩, h2⟩ => ⟨s, h1, h2⟩, fun ⟨s, h1, h2⟩ => ⟨s, ⟨h1, h2.1⟩, h2⟩⟩
theorem toldIn_mine (who : List UInt8) (l : List Si) : toldIn (mine who l) who ↔ toldIn l who := by
  simp only [toldIn, mem_mine]
  exact ⟨fun ⟨s, ⟨h1, _⟩, h2⟩ => ⟨s, h1, h2⟩, fun ⟨s, h1, h2⟩ => ⟨s, ⟨h1, h2⟩, h2⟩⟩
theorem sumS_mine (who : List UInt8) (l : List Si) (p : Int) : sumS (mine who l) who p = sumS l who p := by
  unfold sumS mine
  rw [List.filter_reverse, List.map_reverse, List.sum_reverse, List.filter_filter]
  congr 2
  refine List.filter_congr fun s _ => ?_
  by_cases h : s.tag = who <;> simp [h]
theorem cntE_mine (who : List UInt8) (W : List (List Si)) (p : Int) : cntE (W.map (mine who)) who p = cntE W who p := by
  unfold cntE
  rw [List.filter_map, List.length_map]
  congr 1
  refine List.filter_congr fun l _ => ?_
  simp [seen_mine]
theorem strE_mine (who : List UInt8) (W : List (List Si)) (p : Int) : strE (W.map (mine who)) who p = strE W who p := by
  unfold strE
  rw [List.map_map]
  congr 1
  exact List.map_congr_left fun l _ => sumS_mine who l p
theorem atE_mine (window need : Nat) (who : List UInt8) (L : List (List Si)) : atE window need (L.map (mine who)) who = atE window need L who := by
  unfold atE atW
  rw [List.length_map, ← List.map_drop, show cntE ((L.drop (L.length - window)).map (mine who)) who = cntE (L.drop (L.length - window)) who from funext fun p => cntE_mine who _ p,
    show strE ((L.drop (L.length - window)).map (mine who)) who = strE (L.drop (L.length - window)) who from funext fun p => strE_mine who _ p]
theorem toldE_mine (who : List UInt8) (L : List (List Si)) : toldE (L.map (mine who)) who ↔ toldE L who := by
  simp only [toldE, List.mem_map]
  constructor
  · rintro ⟨_, ⟨l, hl, rfl⟩, h⟩; exact ⟨l, hl, (toldIn_mine who l).1 h⟩
  · rintro ⟨l, hl, h⟩; exact ⟨_, ⟨l, hl, rfl⟩, (toldIn_mine who l).2 h⟩

theorem bestTo_spec (need : Nat) (cnt : Int → Nat) (st : Int → Int) : ∀ n : Nat, (bestTo need cnt st n = -1 ∧ ∀ p : Int, 0 ≤ p → p < n → cnt p < need) ∨ (0 ≤ bestTo need cnt st n ∧ bestTo need cnt st n < n ∧ need ≤ cnt (bestTo need cnt st n)) := by
  intro n
  induction n with
  | zero => exact .inl ⟨rfl, fun p h1 h2 => absurd h1 (by simp at h2; omega)⟩
  | succ n ih =>
    simp only [bestTo]
    split
    · rename_i h
      rcases ih with ⟨h1, h2⟩ | ⟨h1, h2, h3⟩
      · refine .inl ⟨h1, fun p h3 h4 => ?_⟩
        by_cases e : p = n
        · rw [e]; exact h
        · exact h2 p h3 (by omega)
      · exact .inr ⟨h1, by omega, h3⟩
    · rename_i h
      split
      · exact .inr ⟨by omega, by omega, by omega⟩
      · rename_i h4
        rcases ih with ⟨h1, h2⟩ | ⟨h1, h2, h3⟩
        · omega
        · exact .inr ⟨h1, by omega, h3⟩

/-- what TopTrack reckons over the rows that it keeps -/
structure RowI (who : List UInt8) (R : List (List Si)) (p : Int) (sn at_ one : Int) (single : Bool) : Prop where
  cnt : at_ = cntE R who p
  hn : sn = (R.filter fun l => !l.isEmpty).length
  ho : (one = -1 ∧ ∀ l ∈ R, l = []) ∨ ∃ l ∈ R, ∃ s ∈ l, s.place = one
  sg : single = true → ∀ l ∈ R, ∀ s ∈ l, s.place = one
/-- within a row -/
structure RowJ (who : List UInt8) (R : List (List Si)) (row : List Si) (p : Int) (sn at_ one : Int) (single here : Bool) : Prop where
  cnt : at_ = cntE R who p
  hn : sn = (R.filter fun l => !l.isEmpty).length
  ho : (one = -1 ∧ ∀ l ∈ R ++ [row], l = []) ∨ ∃ l ∈ R ++ [row], ∃ s ∈ l, s.place = one
  sg : single = true → ∀ l ∈ R ++ [row], ∀ s ∈ l, s.place = one
  hr : here = true ↔ ∃ s ∈ row, s.place = p

theorem RowI.j {who : List UInt8} {R : List (List Si)} {p sn at_ one : Int} {single : Bool} (h : RowI who R p sn at_ one single) : RowJ who R [] p sn at_ one single false := by
  refine ⟨h.cnt, h.hn, ?_, ?_, by simp⟩
  · rcases h.ho with ⟨h1, h2⟩ | ⟨l, hl, s, hs, e⟩
    · refine .inl ⟨h1, fun l hl => ?_⟩
      rw [List.mem_append, List.mem_singleton] at hl
      exact hl.elim (h2 l) id
    · exact .inr ⟨l, by simp [hl], s, hs, e⟩
  · intro hs l hl s hsl
    rw [List.mem_append, List.mem_singleton] at hl
    rcases hl with hl | rfl
    · exact h.sg hs l hl s hsl
    · cases hsl
theorem RowJ.step {who : List UInt8} {R : List (List Si)} {row : List Si} {p sn at_ one : Int} {single here : Bool} (h : RowJ who R row p sn at_ one single here) (s : Si) {single' here' : Bool} (h0 : ∀ l ∈ R ++ [row], ∀ s ∈ l, 0 ≤ s.place)
    (h1 : single' = true → single = true ∧ (one < 0 ∨ one = s.place)) (h2 : here' = true ↔ here = true ∨ s.place = p) : RowJ who R (row ++ [s]) p sn at_ s.place single' here' := by
  refine ⟨h.cnt, h.hn, .inr ⟨row ++ [s], by simp, s, by simp, rfl⟩, fun hs l hl x hx => ?_, ?_⟩
  · obtain ⟨k1, k2⟩ := h1 hs
    have hmem : (∃ l' ∈ R ++ [row], x ∈ l') ∨ x = s := by
      rw [List.mem_append, List.mem_singleton] at hl
      rcases hl with hl | rfl
      · exact .inl ⟨l, by simp [hl], hx⟩
      · rw [List.mem_append, List.mem_singleton] at hx
        exact hx.imp (fun hx => ⟨row, by simp, hx⟩) id
    rcases hmem with ⟨l', hl', hx'⟩ | rfl
    · have e := h.sg k1 l' hl' x hx'
      have := h0 l' hl' x hx'
      omega
    · rfl
  · rw [h2, h.hr]
    constructor
    · rintro (⟨x, hx, e⟩ | e)
      · exact ⟨x, by simp [hx], e⟩
      · exact ⟨s, by simp, e⟩
    · rintro ⟨x, hx, e⟩
      rw [List.mem_append, List.mem_singleton] at hx
      rcases hx with hx | rfl
      · exact .inl ⟨x, hx, e⟩
      · exact .inr e
theorem RowJ.i {who : List UInt8} {R : List (List Si)} {row : List Si} {p sn at_ one : Int} {single here : Bool} (h : RowJ who R row p sn at_ one single here) (hw : ∀ s ∈ row, s.tag = who) :
    RowI who (R ++ [row]) p (sn + if 0 < row.length then 1 else 0) (at_ + if here = true then 1 else 0) one single := by
  refine ⟨?_, ?_, h.ho, h.sg⟩
  · rw [cntE_snoc, h.cnt]
    have : here = true ↔ seen row who p := by
      rw [h.hr]; exact ⟨fun ⟨s, hs, e⟩ => ⟨s, hs, hw s hs, e⟩, fun ⟨s, hs, _, e⟩ => ⟨s, hs, e⟩⟩
    by_cases e : seen row who p
    · rw [if_pos (this.2 e), if_pos e]; rfl
    · rw [if_neg (fun h => e (this.1 h)), if_neg e]; rfl
  · rw [List.filter_append, List.length_append, h.hn]
    cases row <;> simp
theorem RowI.zero (who : List UInt8) (p : Int) : RowI who [] p 0 0 (-1) true := ⟨rfl, rfl, .inl ⟨rfl, by simp⟩, by simp⟩

/-- THE LAW: what is asked at the end does not come about. -/
theorem RowI.law {who : List UInt8} {R : List (List Si)} {window need : Nat} {EL : List (List Si)} {sn at_ one : Int} {single : Bool} (hR : R = EL.drop (EL.length - window)) (h : RowI who R (atE window need EL who) sn at_ one single) (hn : 1 ≤ need)
    (hg : ∀ l ∈ R, ∀ s ∈ l, 0 ≤ s.place ∧ s.place ≤ 7) (hw : ∀ l ∈ R, ∀ s ∈ l, s.tag = who) :
    ¬ ((0 ≤ atE window need EL who ∧ at_ < need) ∨ (single = true ∧ (need : Int) ≤ sn ∧ atE window need EL who ≠ one) ∨ (single = true ∧ sn < need ∧ 0 ≤ atE window need EL who)) := by
  have hA : atE window need EL who = bestTo need (cntE R who) (strE R who) 8 := by rw [hR]; rfl
  have hsp := bestTo_spec need (cntE R who) (strE R who) 8
  rw [← hA] at hsp
  generalize atE window need EL who = p at *
  have hcs : ∀ q, (cntE R who q : Int) ≤ sn := by
    intro q
    rw [h.hn]
    have : cntE R who q ≤ (R.filter fun l => !l.isEmpty).length := by
      unfold cntE
      rw [← List.countP_eq_length_filter, ← List.countP_eq_length_filter]
      refine List.countP_mono_left fun l _ hl => ?_
      obtain ⟨s, hs, _⟩ := of_decide_eq_true hl
      cases l with
      | nil => cases hs
      | cons a l => rfl
    exact_mod_cast this
  rintro (⟨h1, h2⟩ | ⟨h1, h2, h3⟩ | ⟨h1, h2, h3⟩)
  · rw [h.cnt] at h2; omega
  · have hso : ∀ l ∈ R, ∀ s ∈ l, s.place = one := h.sg h1
    have hcnt : (cntE R who one : Int) = sn := by
      rw [h.hn]; unfold cntE
      congr 2
      refine List.filter_congr fun l hl => ?_
      cases l with
      | nil => simp [seen]
      | cons a l => simp only [List.isEmpty_cons, Bool.not_false, decide_eq_true_eq]; exact ⟨a, by simp, hw _ hl a (by simp), hso _ hl a (by simp)⟩
    rcases h.ho with ⟨e, h4⟩ | ⟨l, hl, s, hs, e⟩
    · have : (R.filter fun l => !l.isEmpty) = [] := by
        rw [List.filter_eq_nil_iff]; intro l hl; simp [h4 l hl]
      have h5 := h.hn
      rw [this] at h5
      simp at h5; omega
    · have h5 := hg l hl s hs
      rw [e] at h5
      rcases hsp with ⟨h6, h7⟩ | ⟨h6, h7, h8⟩
      · have := h7 one (by omega) (by omega); omega
      · have h9 : 0 < cntE R who p := by omega
        unfold cntE at h9
        obtain ⟨l', hl'⟩ := List.exists_mem_of_length_pos h9
        rw [List.mem_filter] at hl'
        obtain ⟨x, hx, _, hp⟩ := of_decide_eq_true hl'.2
        have := hso l' hl'.1 x hx
        omega
  · rcases hsp with ⟨h6, h7⟩ | ⟨h6, h7, h8⟩
    · omega
    · have := hcs p; omega
end Go.Cw
namespace Go.Cw
open Go

/-- the model's track, as it is read -/
def RTr (h : Heap) (a : Addr) (window need : Nat) (E : List (List Si)) : Prop := ∃ ev fv, objAt h a [.int .i64 window, .int .i64 need, ev, fv] ∧ SS h ev E ∧ E.length ≤ 1000 ∧ ∀ l ∈ E, l.length ≤ 1000
def S55 : Spec := fun args h K => ∃ a tag window need E u, args = [.pointer (some a), .string (str tag), .int .i64 u] ∧ RTr h a window need E ∧ K (.bool (decide (toldE (E.take (u + 1).toNat) tag))) h
theorem F55_ok {N : Num} {Γ : Ctx} [GoodC Γ] : Sat S55 (SF N Γ F55) := by
  rintro _ h K ⟨a, tag, window, need, E, u, rfl, ⟨ev, fv, ha, ⟨vs, hv, hvl, hr⟩, hE, hEl⟩, hK⟩
  refine i_fun rfl ?_
  simp only [F55, env0, List.map, List.length, List.replicate, List.cons_append, List.nil_append, Nat.reduceSub, Nat.reduceAdd]
  have A2 : h.cell (a.add 2) = some ev := ha.rules.1 2 (by simp)
  have R := hv.rules1 id (fun _ => rfl) undef
  rw [hvl] at R
  try simp (disch := first | omega | (simp only [PL]; omega)) only [PS, P1, P2, P3, P4, P5, P6, P7, P8, PA, PB, PC, Nat.reduceAdd, Nat.reduceSub, Nat.reduceMul, Nat.reduceLeDiff, Nat.reduceEqDiff, Nat.succ_ne_self, reduceCtorEq, Int.reduceToNat, Int.cast_ofNat_Int, Int.reduceEq, Int.reduceNe, Int.reduceLT, Int.reduceLE]
  refine i_loop (fun e : Nat => [some (.pointer (some a)), some (.string (str tag)), some (.int .i64 u), none, some (.int .i64 e), none, none, none, none]) (fun e h1 => h1 = h ∧ e ≤ E.length ∧ (e : Int) ≤ max 0 (u + 1) ∧ ¬ toldE (E.take e) tag) (fun e => E.length - e) 0 (by try simp only [Pe, and_true, true_and, and_self]; rfl) ⟨rfl, by omega, by omega, by simp [toldE]⟩ ?_
  rintro e h1 ⟨rfl, he, heu, hn⟩
  try simp (disch := first | omega | (simp only [PL]; omega)) only [PS, P1, P2, P3, P4, P5, P6, P7, P8, PA, PB, PC, Nat.reduceAdd, Nat.reduceSub, Nat.reduceMul, Nat.reduceLeDiff, Nat.reduceEqDiff, Nat.succ_ne_self, reduceCtorEq, Int.reduceToNat, Int.cast_ofNat_Int, Int.reduceEq, Int.reduceNe, Int.reduceLT, Int.reduceLE, A2, R]
  refine i_cond (fun c1 => ?_) (fun c1 => ?_)
  · have he2 : e < E.length := by omega
    have Re := (hr e he2).rules 4 Si.enc_len default
    have hle := hEl _ (getD_mem [] he2)
    try simp (disch := first | omega | (simp only [PL]; omega)) only [PS, P1, P2, P3, P4, P5, P6, P7, P8, PA, PB, PC, Nat.reduceAdd, Nat.reduceSub, Nat.reduceMul, Nat.reduceLeDiff, Nat.reduceEqDiff, Nat.succ_ne_self, reduceCtorEq, Int.reduceToNat, Int.cast_ofNat_Int, Int.reduceEq, Int.reduceNe, Int.reduceLT, Int.reduceLE]
    refine i_loop (fun i : Nat => [some (.pointer (some a)), some (.string (str tag)), some (.int .i64 u), none, some (.int .i64 e), some (.int .i64 i), none, none, none]) (fun i h2 => h2 = h1 ∧ i ≤ (E.getD e []).length ∧ ∀ s ∈ (E.getD e []).take i, s.tag ≠ tag) (fun i => (E.getD e []).length - i) 0 (by try simp only [Pe, and_true, true_and, and_self]; rfl) ⟨rfl, by omega, by simp⟩ ?_
    rintro i h2 ⟨rfl, hi, hni⟩
    try simp (disch := first | omega | (simp only [PL]; omega)) only [PS, P1, P2, P3, P4, P5, P6, P7, P8, PA, PB, PC, Nat.reduceAdd, Nat.reduceSub, Nat.reduceMul, Nat.reduceLeDiff, Nat.reduceEqDiff, Nat.succ_ne_self, reduceCtorEq, Int.reduceToNat, Int.cast_ofNat_Int, Int.reduceEq, Int.reduceNe, Int.reduceLT, Int.reduceLE, A2, R, id, Re]
    refine i_cond (fun c2 => ?_) (fun c2 => ?_)
    · have hi2 : i < (E.getD e []).length := by omega
      try simp (disch := first | omega | (simp only [PL]; omega)) only [PS, P1, P2, P3, P4, P5, P6, P7, P8, PA, PB, PC, Nat.reduceAdd, Nat.reduceSub, Nat.reduceMul, Nat.reduceLeDiff, Nat.reduceEqDiff, Nat.succ_ne_self, reduceCtorEq, Int.reduceToNat, Int.cast_ofNat_Int, Int.reduceEq, Int.reduceNe, Int.reduceLT, Int.reduceLE, A2, R, id, Re, Si.enc]
      refine i_cond (fun c3 => ?_) (fun c3 => ?_)
      · try simp (disch := first | omega | (simp only [PL]; omega)) only [PS, P1, P2, P3, P4, P5, P6, P7, P8, PA, PB, PC, Nat.reduceAdd, Nat.reduceSub, Nat.reduceMul, Nat.reduceLeDiff, Nat.reduceEqDiff, Nat.succ_ne_self, reduceCtorEq, Int.reduceToNat, Int.cast_ofNat_Int, Int.reduceEq, Int.reduceNe, Int.reduceLT, Int.reduceLE]
        have ht : toldE (E.take (u + 1).toNat) tag := ⟨E.getD e [], by
          rw [List.mem_take_iff_getElem]
          exact ⟨e, by omega, by simp [List.getD_eq_getElem?_getD, he2]⟩, _, getD_mem default hi2, c3⟩
        rw [decide_eq_true ht] at hK
        exact hK
      · try simp (disch := first | omega | (simp only [PL]; omega)) only [PS, P1, P2, P3, P4, P5, P6, P7, P8, PA, PB, PC, Nat.reduceAdd, Nat.reduceSub, Nat.reduceMul, Nat.reduceLeDiff, Nat.reduceEqDiff, Nat.succ_ne_self, reduceCtorEq, Int.reduceToNat, Int.cast_ofNat_Int, Int.reduceEq, Int.reduceNe, Int.reduceLT, Int.reduceLE]
        refine k_loop (i + 1) (by omega) (by try simp only [Pe, and_true, true_and, and_self]) ⟨rfl, by omega, fun s hs => ?_⟩
        rw [take_succ_d default hi2, List.mem_append, List.mem_singleton] at hs
        rcases hs with hs | rfl
        · exact hni s hs
        · exact c3
    · try simp (disch := first | omega | (simp only [PL]; omega)) only [PS, P1, P2, P3, P4, P5, P6, P7, P8, PA, PB, PC, Nat.reduceAdd, Nat.reduceSub, Nat.reduceMul, Nat.reduceLeDiff, Nat.reduceEqDiff, Nat.succ_ne_self, reduceCtorEq, Int.reduceToNat, Int.cast_ofNat_Int, Int.reduceEq, Int.reduceNe, Int.reduceLT, Int.reduceLE]
      refine k_loop (e + 1) (by omega) (by try simp only [Pe, and_true, true_and, and_self]) ⟨rfl, by omega, by omega, ?_⟩
      rw [take_succ_d [] he2]
      rintro ⟨l, hl, s, hs, h3⟩
      rw [List.mem_append, List.mem_singleton] at hl
      rcases hl with hl | rfl
      · exact hn ⟨l, hl, s, hs, h3⟩
      · exact hni s (by rw [List.take_of_length_le (by omega)]; exact hs) h3
  · try simp (disch := first | omega | (simp only [PL]; omega)) only [PS, P1, P2, P3, P4, P5, P6, P7, P8, PA, PB, PC, Nat.reduceAdd, Nat.reduceSub, Nat.reduceMul, Nat.reduceLeDiff, Nat.reduceEqDiff, Nat.succ_ne_self, reduceCtorEq, Int.reduceToNat, Int.cast_ofNat_Int, Int.reduceEq, Int.reduceNe, Int.reduceLT, Int.reduceLE]
    have ht : ¬ toldE (E.take (u + 1).toNat) tag := by
      have : E.take (u + 1).toNat = E.take e := by
        by_cases c : e < E.length
        · have : (u + 1).toNat = e := by omega
          rw [this]
        · rw [List.take_of_length_le (by omega), List.take_of_length_le (by omega)]
      rw [this]; exact hn
    rw [decide_eq_false ht] at hK
    exact hK
end Go.Cw
namespace Go.Cw
open Go

/-- the digits of a number -/
def dig (d : Nat) : UInt8 := UInt8.ofNat (48 + d % 10)
def dec (n : Nat) : List UInt8 := if h : n < 10 then [dig n] else dec (n / 10) ++ [dig n]
termination_by n
decreasing_by omega
theorem dec_lt {n : Nat} (h : n < 10) : dec n = [dig n] := by rw [dec, dif_pos h]
theorem dec_ge {n : Nat} (h : 10 ≤ n) : dec n = dec (n / 10) ++ [dig n] := by rw [dec, dif_neg (by omega)]
theorem dig_val (d : Nat) : (dig d).toNat = 48 + d % 10 := by
  have : 48 + d % 10 < 256 := by omega
  simp [dig, Nat.mod_eq_of_lt this]
theorem dec_digits (n : Nat) : ∀ b ∈ dec n, 48 ≤ b.toNat ∧ b.toNat ≤ 57 := by
  induction n using Nat.strongRecOn with
  | _ n ih =>
    intro b hb
    by_cases h : n < 10
    · rw [dec_lt h, List.mem_singleton] at hb; subst hb; rw [dig_val]; omega
    · rw [dec_ge (by omega), List.mem_append, List.mem_singleton] at hb
      rcases hb with hb | rfl
      · exact ih _ (by omega) b hb
      · rw [dig_val]; omega
theorem dec_ne (n : Nat) : dec n ≠ [] := by
  by_cases h : n < 10
  · rw [dec_lt h]; simp
  · rw [dec_ge (by omega)]; simp
theorem dec_inj : ∀ {a b : Nat}, dec a = dec b → a = b := by
  intro a
  induction a using Nat.strongRecOn with
  | _ a ih =>
    intro b h
    have hd : ∀ x y : Nat, dig x = dig y → x % 10 = y % 10 := by
      intro x y e
      have := congrArg UInt8.toNat e
      rw [dig_val, dig_val] at this; omega
    by_cases h1 : a < 10 <;> by_cases h2 : b < 10
    · rw [dec_lt h1, dec_lt h2] at h
      have := hd _ _ (by simpa using h); omega
    · rw [dec_lt h1, dec_ge (by omega)] at h
      have := congrArg List.length h
      have hne := List.length_pos_iff.2 (dec_ne (b / 10))
      rw [List.length_append] at this
      simp only [List.length_singleton] at this
      omega
    · rw [dec_lt h2, dec_ge (n := a) (by omega)] at h
      have := congrArg List.length h
      have hne := List.length_pos_iff.2 (dec_ne (a / 10))
      rw [List.length_append] at this
      simp only [List.length_singleton] at this
      omega
    · rw [dec_ge (by omega), dec_ge (n := b) (by omega)] at h
      obtain ⟨e1, e2⟩ := List.append_inj' h rfl
      have h3 := ih (a / 10) (by omega) e1
      have h4 := hd _ _ (by simpa using e2)
      omega
theorem dec_len : ∀ (k : Nat) {n : Nat}, n < 10 ^ k → 0 < k → (dec n).length ≤ k := by
  intro k
  induction k with
  | zero => intro n _ h; omega
  | succ k ih =>
    intro n hn _
    by_cases h : n < 10
    · rw [dec_lt h]; simp
    · rw [dec_ge (by omega), List.length_append, List.length_singleton]
      have hk : 0 < k := by
        rcases Nat.eq_zero_or_pos k with rfl | hk
        · simp at hn; omega
        · exact hk
      have := ih (n := n / 10) (by rw [Nat.pow_succ] at hn; omega) hk
      omega

theorem dec_lt_of_len : ∀ (k : Nat) {n : Nat}, (dec n).length ≤ k → n < 10 ^ k := by
  intro k
  induction k with
  | zero => intro n h; exact absurd (List.eq_nil_of_length_eq_zero (Nat.le_zero.1 h)) (dec_ne n)
  | succ k ih =>
    intro n h
    by_cases h1 : n < 10
    · have : 0 < 10 ^ k := Nat.pow_pos (by omega)
      rw [Nat.pow_succ]; omega
    · rw [dec_ge (by omega), List.length_append, List.length_singleton] at h
      have := ih (n := n / 10) (by omega)
      rw [Nat.pow_succ]; omega
theorem dec_le_iff {n k : Nat} (hk : 0 < k) : (dec n).length ≤ k ↔ n < 10 ^ k := ⟨dec_lt_of_len k, fun h => dec_len k h hk⟩

/-- a key of the cache -/
def keyOf (tag : List UInt8) (e : Nat) : List UInt8 := tag ++ [64] ++ dec e
theorem keyOf_inj {t1 t2 : List UInt8} {e1 e2 : Nat} (h : keyOf t1 e1 = keyOf t2 e2) : t1 = t2 ∧ e1 = e2 := by
  have aux : ∀ (t1 t2 d1 d2 : List UInt8), (∀ b ∈ d1, b ≠ 64) → (∀ b ∈ d2, b ≠ 64) → t1 ++ [64] ++ d1 = t2 ++ [64] ++ d2 → t1 = t2 ∧ d1 = d2 := by
    intro t1
    induction t1 with
    | nil =>
      intro t2 d1 d2 h1 h2 e
      cases t2 with
      | nil => simpa using e
      | cons x t2 =>
        simp only [List.nil_append, List.cons_append, List.cons.injEq] at e
        exact absurd rfl (h1 64 (by rw [e.2]; simp))
    | cons x t1 ih =>
      intro t2 d1 d2 h1 h2 e
      cases t2 with
      | nil =>
        simp only [List.nil_append, List.cons_append, List.cons.injEq] at e
        exact absurd rfl (h2 64 (by rw [← e.2]; simp))
      | cons y t2 =>
        simp only [List.cons_append, List.cons.injEq] at e
        obtain ⟨rfl, e⟩ := e
        obtain ⟨rfl, rfl⟩ := ih t2 d1 d2 h1 h2 (by simpa using e)
        exact ⟨rfl, rfl⟩
  have hn : ∀ n, ∀ b ∈ dec n, b ≠ 64 := by
    intro n b hb e
    have := dec_digits n b hb
    rw [e] at this
    simp at this
  obtain ⟨a, b⟩ := aux _ _ _ _ (hn e1) (hn e2) h
  exact ⟨a, dec_inj b⟩

def S85 : Spec := fun args h K => ∃ n : Nat, args = [.int .i64 n] ∧ n ≤ 9223372036854775807 ∧ ∀ h', Heap.le h h' → K (.string (str (dec n))) h'
theorem F85_ok {N : Num} {Γ : Ctx} [GoodC Γ] : Sat S85 (SF N Γ F85) := by
  rintro _ h K ⟨n, rfl, hn, hK⟩
  refine i_fun rfl ?_
  simp only [F85, env0, List.map, List.length, List.replicate, List.cons_append, List.nil_append, Nat.reduceSub, Nat.reduceAdd]
  have hneg : ((n : Int) < 0) = False := by simp
  try simp (disch := first | omega | (simp only [PL]; omega)) only [PS, P1, P2, P3, P4, P5, P6, P7, P8, PA, PB, PC, Nat.reduceAdd, Nat.reduceSub, Nat.reduceMul, Nat.reduceLeDiff, Nat.reduceEqDiff, Nat.succ_ne_self, reduceCtorEq, Int.reduceToNat, Int.cast_ofNat_Int, Int.reduceEq, Int.reduceNe, Int.reduceLT, Int.reduceLE, hneg]
  refine i_loop (fun s : Nat × List UInt8 => [some (.int .i64 s.1), some (.string (str [])), some (.string (str s.2)), some (.string (str [])), none, none, none, none, none])
    (fun s h1 => Heap.le h h1 ∧ s.1 ≤ n ∧ dec n = dec s.1 ++ s.2 ∧ s.1 + s.2.length ≤ n ∧ (s.1 = 0 → s.2 = [])) (fun s => s.1) (n, []) (by dsimp only; try simp only [Pe, and_true, true_and, and_self]) ⟨Heap.le.refl h, Nat.le_refl _, by simp, by simp, by simp⟩ ?_
  rintro ⟨k, s⟩ h1 ⟨hle, hk, hd, hs, h0⟩
  dsimp only at hk hd hs h0
  have hrem : ∀ h, o2V h (.bin .rem) (.v (.int .i64 (k : Int))) (.v (.int .i64 10)) = some (.v (.int .i64 ((k % 10 : Nat) : Int))) := by
    intro h
    simp only [o2V, binV, intV, if_true, Option.map_some]
    rw [if_neg (by decide), show (k : Int).tmod 10 = ((k % 10 : Nat) : Int) from by rw [Int.tmod_eq_emod_of_nonneg (by omega)]; omega]
    rfl
  have hquo : IntKind.i64.wrap ((k : Int).tdiv 10) = ((k / 10 : Nat) : Int) := by
    rw [show (k : Int).tdiv 10 = ((k / 10 : Nat) : Int) from by rw [Int.tdiv_eq_ediv_of_nonneg (by omega)]; omega, w64 (by omega) (by omega)]
  have hneg2 : ((((k % 10 : Nat) : Int)) < 0) = False := by simp; omega
  try simp (disch := first | omega | (simp only [PL]; omega)) only [PS, P1, P2, P3, P4, P5, P6, P7, P8, PA, PB, PC, Nat.reduceAdd, Nat.reduceSub, Nat.reduceMul, Nat.reduceLeDiff, Nat.reduceEqDiff, Nat.succ_ne_self, reduceCtorEq, Int.reduceToNat, Int.cast_ofNat_Int, Int.reduceEq, Int.reduceNe, Int.reduceLT, Int.reduceLE, hrem, hneg2]
  have hw : IntKind.i64.wrap (48 + ((k % 10 : Nat) : Int)) = ((48 + k % 10 : Nat) : Int) := by rw [w64 (by omega) (by omega)]; omega
  have hb : IntKind.u8.wrap ((48 + k % 10 : Nat) : Int) = ((dig k).toNat : Int) := by rw [w8', dig_val]; omega
  try simp (disch := first | omega | (simp only [PL]; omega)) only [PS, P1, P2, P3, P4, P5, P6, P7, P8, PA, PB, PC, Nat.reduceAdd, Nat.reduceSub, Nat.reduceMul, Nat.reduceLeDiff, Nat.reduceEqDiff, Nat.succ_ne_self, reduceCtorEq, Int.reduceToNat, Int.cast_ofNat_Int, Int.reduceEq, Int.reduceNe, Int.reduceLT, Int.reduceLE, hw, hb]
  refine i_bslS encB 1 encB_len [dig k] rfl rfl (by simp [maxLen]) fun v h2 hle2 ho => ?_
  have hv := ho.sl encB_len
  have hb2 := hv.b2s
  have hd2 : 10 ≤ k → dec n = dec (k / 10) ++ ([dig k] ++ s) := fun h => by rw [hd, dec_ge h, List.append_assoc]
  have hd1 : k < 10 → dec n = [dig k] ++ s := fun h => by rw [hd, dec_lt h]
  have hl1 : 1 + s.length ≤ 9223372036854775807 := by
    by_cases e : k = 0
    · rw [h0 e]; simp
    · omega
  try simp (disch := first | omega | (simp only [PL]; omega)) only [PS, P1, P2, P3, P4, P5, P6, P7, P8, PA, PB, PC, Nat.reduceAdd, Nat.reduceSub, Nat.reduceMul, Nat.reduceLeDiff, Nat.reduceEqDiff, Nat.succ_ne_self, reduceCtorEq, Int.reduceToNat, Int.cast_ofNat_Int, Int.reduceEq, Int.reduceNe, Int.reduceLT, Int.reduceLE, hb2]
  try simp (disch := first | omega | (simp only [PL]; omega)) only [PS, P1, P2, P3, P4, P5, P6, P7, P8, PA, PB, PC, Nat.reduceAdd, Nat.reduceSub, Nat.reduceMul, Nat.reduceLeDiff, Nat.reduceEqDiff, Nat.succ_ne_self, reduceCtorEq, Int.reduceToNat, Int.cast_ofNat_Int, Int.reduceEq, Int.reduceNe, Int.reduceLT, Int.reduceLE, hquo]
  refine i_cond (fun c1 => ?_) (fun c1 => ?_)
  · try simp (disch := first | omega | (simp only [PL]; omega)) only [PS, P1, P2, P3, P4, P5, P6, P7, P8, PA, PB, PC, Nat.reduceAdd, Nat.reduceSub, Nat.reduceMul, Nat.reduceLeDiff, Nat.reduceEqDiff, Nat.succ_ne_self, reduceCtorEq, Int.reduceToNat, Int.cast_ofNat_Int, Int.reduceEq, Int.reduceNe, Int.reduceLT, Int.reduceLE]
    rw [hd1 (by omega)] at hK
    exact hK _ (hle.trans hle2)
  · try simp (disch := first | omega | (simp only [PL]; omega)) only [PS, P1, P2, P3, P4, P5, P6, P7, P8, PA, PB, PC, Nat.reduceAdd, Nat.reduceSub, Nat.reduceMul, Nat.reduceLeDiff, Nat.reduceEqDiff, Nat.succ_ne_self, reduceCtorEq, Int.reduceToNat, Int.cast_ofNat_Int, Int.reduceEq, Int.reduceNe, Int.reduceLT, Int.reduceLE]
    refine k_loop (k / 10, [dig k] ++ s) (by dsimp only; omega) (by dsimp only; try simp only [Pe, and_true, true_and, and_self]) ⟨hle.trans hle2, by dsimp only; omega, hd2 (by omega), by dsimp only; simp only [List.length_append, List.length_singleton]; omega, fun h => absurd h (by dsimp only; omega)⟩
end Go.Cw
/- Own slices that are written in place. -/
namespace Go.Cw
open Go

theorem OwnS.put {α : Type} {enc : α → List Value} {sz : Nat} (he : ∀ x, (enc x).length = sz) {h0 h : Heap} {v : Value} {L M : List α} (hone : ∀ x ∈ M, (enc x).all Cw.one = true) (ho : OwnS enc sz h0 h v L) {j : Nat} (hj : j + M.length ≤ L.length) (hL : L ≠ []) :
    ∃ h', putRow h (elt v (j * sz)) (M.flatMap enc) = some h' ∧ OwnS enc sz h0 h' v (L.take j ++ M ++ L.drop (j + M.length)) := by
  obtain ⟨h1, a, cap, rfl, h2, h3, h4⟩ := ho
  rcases h4 with ⟨_, e, _⟩ | ⟨b, c, t, rfl, hb0, hb, hcs, hc⟩
  · exact absurd e hL
  have fl := flat_len he L
  have flM := flat_len he M
  have hle : j * sz + M.length * sz ≤ L.length * sz := by rw [← Nat.add_mul]; exact Nat.mul_le_mul_right sz hj
  have hcap : L.length * sz ≤ cap * sz := Nat.mul_le_mul_right sz h2
  have hlen : (L.take j ++ M ++ L.drop (j + M.length)).length = L.length := by simp only [List.length_append, List.length_take, List.length_drop]; omega
  have hall : (M.flatMap enc).all Cw.one = true := by
    rw [List.all_flatMap, List.all_eq_true]; intro y hy; exact hone y hy
  refine ⟨h.set b (.cells (putL c (j * sz) (M.flatMap enc)) t (0, 0)), ?_, ?_⟩
  · simp only [elt]
    rw [addr_add' _ rfl]
    cases hf : M.flatMap enc with
    | nil =>
      simp only [putRow, putL, Option.some.injEq]
      funext y
      simp only [Heap.set]
      split
      · rename_i e; subst e; exact hb
      · rfl
    | cons y ys =>
      have q1 : 0 + j * sz + (y :: ys).length ≤ c.size := by rw [← hf, flM, hcs]; omega
      have q2 : (y :: ys).all Cw.one = true := by rw [← hf]; exact hall
      simp only [putRow, Option.isSome_none, Bool.false_eq_true, if_false, hb]
      rw [if_pos ⟨q1, q2⟩]
      simp
  · refine ⟨h1.over hb0 _, some ⟨b, 0, none⟩, cap, by rw [hlen], by rw [hlen]; exact h2, h3, .inr ⟨b, _, t, rfl, hb0, Heap.set_eq, ?_, ?_⟩⟩
    · rw [(putL_get c (M.flatMap enc) (j * sz) 0 (by rw [flM, hcs]; omega)).1, hcs]
    · intro i hi
      rw [(putL_get c (M.flatMap enc) (j * sz) i (by rw [flM, hcs]; omega)).2, flM]
      have f1 : ((L.take j).flatMap enc).length = j * sz := by rw [flat_len he, List.length_take]; congr 1; omega
      have hsplit : L.flatMap enc = (L.take j).flatMap enc ++ (((L.drop j).take M.length).flatMap enc ++ (L.drop (j + M.length)).flatMap enc) := by
        rw [← List.flatMap_append, ← List.flatMap_append, ← List.drop_drop, List.take_append_drop, List.take_append_drop]
      have f2 : (((L.drop j).take M.length).flatMap enc).length = M.length * sz := by
        rw [flat_len he, List.length_take, List.length_drop]; congr 1; omega
      rw [List.flatMap_append, List.flatMap_append, List.append_assoc]
      rw [flat_len he, hlen] at hi
      have hci := hc i (by rw [fl]; exact hi)
      by_cases e1 : i < j * sz
      · rw [if_neg (by omega), hci, hsplit, List.getElem?_append_left (by rw [f1]; exact e1), List.getElem?_append_left (by rw [f1]; exact e1)]
      · rw [List.getElem?_append_right (by rw [f1]; omega), f1]
        by_cases e2 : i < j * sz + M.length * sz
        · rw [if_pos ⟨by omega, e2⟩, List.getElem?_append_left (by rw [flM]; omega)]
        · rw [if_neg (by omega), hci, hsplit, List.getElem?_append_right (by rw [f1]; omega), f1, List.getElem?_append_right (by rw [f2]; omega), List.getElem?_append_right (by rw [flM]; omega), f2, flM]

/-- an element is written -/
theorem i_stS {N : Num} {Γ : Ctx} {α : Type} {enc : α → List Value} {sz : Nat} (he : ∀ x, (enc x).length = sz) {h0 h : Heap} {v x : Value} {L : List α} (y : α) (hone : (enc y).all Cw.one = true) (ho : OwnS enc sz h0 h v L) {j : Nat} (hj : j < L.length) (hx : x.cells.toList = enc y) {K : Value → Heap → Prop}
    (hK : ∀ h', OwnS enc sz h0 h' v (L.set j y) → K undef h') : efW N Γ (.st sz) [.pointer (some (elt v (j * sz))), x] h K := by
  obtain ⟨h', h1, h2⟩ := ho.put he (M := [y]) (by simpa using hone) (j := j) (by simp; omega) (by intro e; subst e; simp at hj)
  refine ⟨by rw [← Array.length_toList, hx, he], h', by rw [hx]; simpa using h1, hK h' ?_⟩
  have : L.set j y = L.take j ++ [y] ++ L.drop (j + 1) := by
    rw [List.set_eq_take_append_cons_drop, if_pos hj]; simp
  rw [this]; exact h2

/-- all from a place on moves on by one -/
theorem i_cpyS {N : Num} {Γ : Ctx} {α : Type} {enc : α → List Value} (he : ∀ x, (enc x).length = 1) {h0 h : Heap} {v : Value} {l : List α} {z : α} (hone : ∀ x ∈ l, (enc x).all Cw.one = true) (ho : OwnS enc 1 h0 h v (l ++ [z])) {k : Nat} (hk : k ≤ l.length) :
    ∃ d s, (∀ k1 k2, o3V (.lsl 1) (.v v) (.v (.int k1 ((k + 1 : Nat) : Int))) (.v (.int k2 ((l.length + 1 : Nat) : Int))) = some (.v d)) ∧ (∀ k1 k2, o3V (.lsl 1) (.v v) (.v (.int k1 (k : Int))) (.v (.int k2 ((l.length + 1 : Nat) : Int))) = some (.v s)) ∧
      ∀ K : Value → Heap → Prop, (∀ u h', OwnS enc 1 h0 h' v ((l ++ [z]).take (k + 1) ++ l.drop k) → K u h') → efW N Γ (.cpy 1) [d, s] h K := by
  have hput := ho.put he (M := l.drop k) (fun x hx => hone x (List.mem_of_mem_drop hx)) (j := k + 1) (by simp; omega) (by simp)
  obtain ⟨h', p1, p2⟩ := hput
  have hsl := ho.sl he
  have hfull := p2
  obtain ⟨h1, a, cap, rfl, h2, h3, h4⟩ := ho
  rcases h4 with ⟨_, e, _⟩ | ⟨b, c, t, rfl, hb0, hb, hcs, hc⟩
  · simp at e
  simp only [List.length_append, List.length_singleton] at h2
  refine ⟨.slice (if cap = k + 1 then some ⟨b, 0, none⟩ else some ((⟨b, 0, none⟩ : Addr).add ((k + 1) * 1))) (l.length + 1 - (k + 1)) (cap - (k + 1)), .slice (some ((⟨b, 0, none⟩ : Addr).add (k * 1))) (l.length + 1 - k) (cap - k), ?_, ?_, ?_⟩
  · intro k1 k2
    simp only [o3V]
    rw [if_pos ⟨by omega, by omega, by omega⟩]
    simp
  · intro k1 k2
    simp only [o3V]
    rw [if_pos ⟨by omega, by omega, by omega⟩]
    rw [if_neg (by omega)]
    simp
  · intro K hK
    have hmin : min (l.length + 1 - k) (l.length + 1 - (k + 1)) * 1 = l.length - k := by omega
    have hflen : ((l ++ [z]).flatMap enc).length = l.length + 1 := by rw [flat_len he]; simp
    have hdl : ((l.drop k).flatMap enc).length = l.length - k := by rw [flat_len he]; simp
    have hrow : h.row ((⟨b, 0, none⟩ : Addr).add (k * 1)) (l.length - k) = some ((l.drop k).flatMap enc).toArray := by
      have hr : rowAt h ⟨b, 0, none⟩ ((l ++ [z]).flatMap enc) := by
        refine ⟨rfl, c, t, _, hb, ?_, fun i hi => by simpa using hc i hi⟩
        rw [hflen, hcs]; dsimp only; omega
      rw [hr.row (by rw [hflen]; omega)]
      have e1 : l.flatMap enc = (l.take k).flatMap enc ++ (l.drop k).flatMap enc := by rw [← List.flatMap_append, List.take_append_drop]
      have e2 : ((l.take k).flatMap enc).length = k * 1 := by rw [flat_len he, List.length_take]; congr 1; omega
      rw [List.flatMap_append, e1, List.append_assoc, ← e2, List.drop_left', ← hdl, List.take_left']
      · rfl
      · rfl
    have hlist : (l ++ [z]).take (k + 1) ++ l.drop k ++ (l ++ [z]).drop (k + 1 + (l.drop k).length) = (l ++ [z]).take (k + 1) ++ l.drop k := by
      have : (l ++ [z]).drop (k + 1 + (l.drop k).length) = [] := by apply List.drop_eq_nil_of_le; simp; omega
      rw [this, List.append_nil]
    rw [hlist] at p2
    by_cases hc1 : cap = k + 1
    · have hkl : k = l.length := by omega
      subst hkl
      simp only [List.drop_length, List.flatMap_nil, putRow, Option.some.injEq] at p1
      subst p1
      simp only [if_pos hc1, efW]
      refine ⟨#[], by simp [Heap.row], h, by simp [putRow], by omega, hK _ _ p2⟩
    · simp only [if_neg hc1, efW]
      rw [hmin]
      refine ⟨_, hrow, h', ?_, by omega, hK _ _ p2⟩
      simpa [elt] using p1
end Go.Cw
namespace Go.Cw
open Go

def encT (s : List UInt8) : List Value := [.string (str s)]
/-- into a list that is in order -/
def insT : List (List UInt8) → List UInt8 → List (List UInt8)
  | [], s => [s]
  | x :: l, s => if Op.bytesLess x s then x :: insT l s else if x = s then x :: l else s :: x :: l
theorem insT_pre (s : List UInt8) (rest : List (List UInt8)) : ∀ pre : List (List UInt8), (∀ x ∈ pre, Op.bytesLess x s = true) → insT (pre ++ rest) s = pre ++ insT rest s := by
  intro pre
  induction pre with
  | nil => intro _; rfl
  | cons x pre ih =>
    intro h
    simp only [List.cons_append, insT]
    rw [if_pos (h x (by simp)), ih fun y hy => h y (by simp [hy])]
theorem insT_len (s : List UInt8) : ∀ l : List (List UInt8), (insT l s).length ≤ l.length + 1 := by
  intro l
  induction l with
  | nil => simp [insT]
  | cons x l ih =>
    simp only [insT]
    split
    · simp; omega
    · split <;> simp
theorem mem_insT (s t : List UInt8) : ∀ l : List (List UInt8), t ∈ insT l s ↔ t = s ∨ t ∈ l := by
  intro l
  induction l with
  | nil => simp [insT]
  | cons x l ih =>
    simp only [insT]
    split
    · simp only [List.mem_cons, ih]
      constructor
      · rintro (h | h | h) <;> simp [h]
      · rintro (h | h | h) <;> simp [h]
    · split
      · rename_i e; subst e; simp
      · simp
def tagsOfL (l : List (List UInt8)) : List (List UInt8) := l.foldl insT []
theorem tagsOfL_snoc (l : List (List UInt8)) (s : List UInt8) : tagsOfL (l ++ [s]) = insT (tagsOfL l) s := by simp [tagsOfL]
theorem tagsOfL_len (l : List (List UInt8)) : (tagsOfL l).length ≤ l.length := by
  induction l using snoc_ind with
  | h0 => simp [tagsOfL]
  | hs l s ih => rw [tagsOfL_snoc]; have := insT_len s (tagsOfL l); simp; omega
theorem mem_tagsOfL (l : List (List UInt8)) (t : List UInt8) : t ∈ tagsOfL l ↔ t ∈ l := by
  induction l using snoc_ind with
  | h0 => simp [tagsOfL]
  | hs l s ih => rw [tagsOfL_snoc, mem_insT, ih, List.mem_append, List.mem_singleton]; exact or_comm
/-- the tags of some epochs, in order -/
def flatT (E : List (List Si)) : List (List UInt8) := (E.flatMap id).map (·.tag)
def tagsE (E : List (List Si)) : List (List UInt8) := tagsOfL (flatT E)
theorem flatT_snoc (E : List (List Si)) (l : List Si) : flatT (E ++ [l]) = flatT E ++ l.map (·.tag) := by simp [flatT]
theorem flatT_len (E : List (List Si)) (h : ∀ l ∈ E, l.length ≤ 1000) : (flatT E).length ≤ 1000 * E.length := by
  induction E using snoc_ind with
  | h0 => simp [flatT]
  | hs E l ih =>
    have h1 := ih fun x hx => h x (by simp [hx])
    have h2 := h l (by simp)
    rw [flatT_snoc]
    simp only [List.length_append, List.length_map, List.length_singleton]
    omega
theorem mem_flatT (E : List (List Si)) (t : List UInt8) : t ∈ flatT E ↔ toldE E t := by
  simp only [flatT, List.mem_map, List.mem_flatMap, id, toldE, toldIn]
  constructor
  · rintro ⟨s, ⟨l, hl, hs⟩, rfl⟩; exact ⟨l, hl, s, hs, rfl⟩
  · rintro ⟨l, hl, s, hs, rfl⟩; exact ⟨s, ⟨l, hl, hs⟩, rfl⟩
theorem mem_tagsE (E : List (List Si)) (t : List UInt8) : t ∈ tagsE E ↔ toldE E t := by rw [tagsE, mem_tagsOfL, mem_flatT]

def S14 : Spec := fun args h K => ∃ a window need E u, args = [.pointer (some a), .int .i64 u] ∧ RTr h a window need E ∧ ∀ v h', OwnS encT 1 h h' v (tagsE (E.take (u + 1).toNat)) → K v h'
theorem F14_ok {N : Num} {Γ : Ctx} [GoodC Γ] : Sat S14 (SF N Γ F14) := by
  rintro _ h K ⟨a, window, need, E, u, rfl, ⟨ev, fv, ha, ⟨vs, hv, hvl, hr⟩, hE, hEl⟩, hK⟩
  refine i_fun rfl ?_
  simp only [F14, env0, List.map, List.length, List.replicate, List.cons_append, List.nil_append, Nat.reduceSub, Nat.reduceAdd]
  try simp (disch := first | omega | (simp only [PL]; omega)) only [PS, P1, P2, P3, P4, P5, P6, P7, P8, PA, PB, PC, Nat.reduceAdd, Nat.reduceSub, Nat.reduceMul, Nat.reduceLeDiff, Nat.reduceEqDiff, Nat.succ_ne_self, reduceCtorEq, Int.reduceToNat, Int.cast_ofNat_Int, Int.reduceEq, Int.reduceNe, Int.reduceLT, Int.reduceLE]
  refine i_loop (fun s : Nat × Value => [some (.pointer (some a)), some (.int .i64 u), none, some s.2, some (.int .i64 s.1), none, none, none, none, none, none, none, none, none, none])
    (fun s h1 => s.1 ≤ E.length ∧ (s.1 : Int) ≤ max 0 (u + 1) ∧ OwnS encT 1 h h1 s.2 (tagsE (E.take s.1))) (fun s => E.length - s.1) (0, .slice none 0 0) (by try simp only [Pe, and_true, true_and, and_self]; rfl) ⟨by dsimp only; omega, by dsimp only; omega, by simp [tagsE, flatT, tagsOfL]; exact OwnS.nil (Heap.le.refl h)⟩ ?_
  rintro ⟨e, v⟩ h1 ⟨he, heu, ho⟩
  dsimp only at he heu ho
  have A2 := fun h' (hl : Heap.le h h') => ((ha.le hl).rules.1 2 (by simp) : h'.cell (a.add 2) = some ev)
  have RR := fun h' (hl : Heap.le h h') => (hv.le hl).rules1 id (fun _ => rfl) undef
  rw [hvl] at RR
  have A21 := A2 h1 ho.1
  have R1 := RR h1 ho.1
  have O1 := ho.one
  try simp (disch := first | omega | (simp only [PL]; omega)) only [PS, P1, P2, P3, P4, P5, P6, P7, P8, PA, PB, PC, Nat.reduceAdd, Nat.reduceSub, Nat.reduceMul, Nat.reduceLeDiff, Nat.reduceEqDiff, Nat.succ_ne_self, reduceCtorEq, Int.reduceToNat, Int.cast_ofNat_Int, Int.reduceEq, Int.reduceNe, Int.reduceLT, Int.reduceLE, A21, R1]
  refine i_cond (fun c1 => ?_) (fun c1 => ?_)
  rotate_left
  · have : E.take (u + 1).toNat = E.take e := by
      by_cases c : e < E.length
      · have : (u + 1).toNat = e := by omega
        rw [this]
      · rw [List.take_of_length_le (by omega), List.take_of_length_le (by omega)]
    rw [this] at hK
    try simp (disch := first | omega | (simp only [PL]; omega)) only [PS, P1, P2, P3, P4, P5, P6, P7, P8, PA, PB, PC, Nat.reduceAdd, Nat.reduceSub, Nat.reduceMul, Nat.reduceLeDiff, Nat.reduceEqDiff, Nat.succ_ne_self, reduceCtorEq, Int.reduceToNat, Int.cast_ofNat_Int, Int.reduceEq, Int.reduceNe, Int.reduceLT, Int.reduceLE]
    exact hK _ _ ho
  have he2 : e < E.length := by omega
  have hle := hEl _ (getD_mem [] he2)
  have hfl := flatT_len (E.take e) fun l hl => hEl l (List.mem_of_mem_take hl)
  have htl : (E.take e).length ≤ 1000 := by rw [List.length_take]; omega
  have hsnoc : tagsE (E.take (e + 1)) = tagsOfL (flatT (E.take e) ++ (E.getD e []).map (·.tag)) := by rw [tagsE, take_succ_d [] he2, flatT_snoc]
  have hrow := hr e he2
  generalize hrw : E.getD e [] = row at *
  generalize hft : flatT (E.take e) = fT at *
  have htE : tagsE (E.take e) = tagsOfL fT := by rw [tagsE, hft]
  rw [htE] at ho
  try simp (disch := first | omega | (simp only [PL]; omega)) only [PS, P1, P2, P3, P4, P5, P6, P7, P8, PA, PB, PC, Nat.reduceAdd, Nat.reduceSub, Nat.reduceMul, Nat.reduceLeDiff, Nat.reduceEqDiff, Nat.succ_ne_self, reduceCtorEq, Int.reduceToNat, Int.cast_ofNat_Int, Int.reduceEq, Int.reduceNe, Int.reduceLT, Int.reduceLE]
  refine i_loop (fun s : Nat × Value => [some (.pointer (some a)), some (.int .i64 u), none, some s.2, some (.int .i64 e), some (.int .i64 s.1), none, none, none, none, none, none, none, none, none])
    (fun s h2 => s.1 ≤ row.length ∧ OwnS encT 1 h h2 s.2 (tagsOfL (fT ++ (row.take s.1).map (·.tag)))) (fun s => row.length - s.1) (0, v) (by try simp only [Pe, and_true, true_and, and_self]; rfl) ⟨by dsimp only; omega, by simpa using ho⟩ ?_
  rintro ⟨i, v2⟩ h2 ⟨hi, ho2⟩
  dsimp only at hi ho2
  have A22 := A2 h2 ho2.1
  have R2 := RR h2 ho2.1
  have Re2 := (hrow.le ho2.1).rules 4 Si.enc_len default
  have O2 := ho2.one
  try simp (disch := first | omega | (simp only [PL]; omega)) only [PS, P1, P2, P3, P4, P5, P6, P7, P8, PA, PB, PC, Nat.reduceAdd, Nat.reduceSub, Nat.reduceMul, Nat.reduceLeDiff, Nat.reduceEqDiff, Nat.succ_ne_self, reduceCtorEq, Int.reduceToNat, Int.cast_ofNat_Int, Int.reduceEq, Int.reduceNe, Int.reduceLT, Int.reduceLE, A22, R2, id, Re2]
  refine i_cond (fun c2 => ?_) (fun c2 => ?_)
  rotate_left
  · have : i = row.length := by omega
    subst this
    rw [List.take_length, ← hsnoc] at ho2
    try simp (disch := first | omega | (simp only [PL]; omega)) only [PS, P1, P2, P3, P4, P5, P6, P7, P8, PA, PB, PC, Nat.reduceAdd, Nat.reduceSub, Nat.reduceMul, Nat.reduceLeDiff, Nat.reduceEqDiff, Nat.succ_ne_self, reduceCtorEq, Int.reduceToNat, Int.cast_ofNat_Int, Int.reduceEq, Int.reduceNe, Int.reduceLT, Int.reduceLE]
    exact k_loop (e + 1, v2) (by dsimp only; omega) (by try simp only [Pe, and_true, true_and, and_self]) ⟨by dsimp only; omega, by dsimp only; omega, ho2⟩
  have hi2 : i < row.length := by omega
  have hsn2 : tagsOfL (fT ++ (row.take (i + 1)).map (·.tag)) = insT (tagsOfL (fT ++ (row.take i).map (·.tag))) (row.getD i default).tag := by
    rw [take_succ_d default hi2, List.map_append, ← List.append_assoc]; exact tagsOfL_snoc _ _
  have hLl := tagsOfL_len (fT ++ (row.take i).map (·.tag))
  simp only [List.length_append, List.length_map, List.length_take] at hLl
  try simp (disch := first | omega | (simp only [PL]; omega)) only [PS, P1, P2, P3, P4, P5, P6, P7, P8, PA, PB, PC, Nat.reduceAdd, Nat.reduceSub, Nat.reduceMul, Nat.reduceLeDiff, Nat.reduceEqDiff, Nat.succ_ne_self, reduceCtorEq, Int.reduceToNat, Int.cast_ofNat_Int, Int.reduceEq, Int.reduceNe, Int.reduceLT, Int.reduceLE, A22, R2, id, Re2, Si.enc]
  generalize hL : tagsOfL (fT ++ (row.take i).map (·.tag)) = L at *
  generalize hs : (row.getD i default).tag = s at *
  have hLb : L.length ≤ 2000000 := by omega
  have RL := (ho2.sl (enc := encT) (fun _ => rfl)).rules1 (fun t => .string (str t)) (fun _ => rfl) default
  refine i_meet_blk (fun env h3 => h3 = h2 ∧ ∃ k, k ≤ L.length ∧ (∀ x ∈ L.take k, Op.bytesLess x s = true) ∧ (k < L.length → Op.bytesLess (L.getD k default) s = false) ∧ env = [some (.pointer (some a)), some (.int .i64 u), none, some v2, some (.int .i64 e), some (.int .i64 i), some (.string (str s)), some (.int .i64 k), none, none, none, none, none, none, none]) ?_ ?_
  rotate_left
  · refine i_loop (fun k : Nat => [some (.pointer (some a)), some (.int .i64 u), none, some v2, some (.int .i64 e), some (.int .i64 i), some (.string (str s)), some (.int .i64 k), none, none, none, none, none, none, none])
      (fun k h3 => h3 = h2 ∧ k ≤ L.length ∧ ∀ x ∈ L.take k, Op.bytesLess x s = true) (fun k => L.length - k) 0 (by try simp only [Pe, and_true, true_and, and_self]; rfl) ⟨rfl, by omega, by simp⟩ ?_
    rintro k h3 ⟨rfl, hk, hkl⟩
    by_cases hk2 : k < L.length
    · have hk3 : ((k : Int) < (L.length : Int)) = True := by simp; omega
      cases hb : Op.bytesLess (L.getD k default) s with
      | true =>
        try simp (disch := first | omega | (simp only [PL]; omega)) only [PS, P1, P2, P3, P4, P5, P6, P7, P8, PA, PB, PC, Nat.reduceAdd, Nat.reduceSub, Nat.reduceMul, Nat.reduceLeDiff, Nat.reduceEqDiff, Nat.succ_ne_self, reduceCtorEq, Int.reduceToNat, Int.cast_ofNat_Int, Int.reduceEq, Int.reduceNe, Int.reduceLT, Int.reduceLE, RL, hk3, hb]
        refine k_loop (k + 1) (by omega) (by try simp only [Pe, and_true, true_and, and_self]) ⟨rfl, by omega, fun x hx => ?_⟩
        rw [take_succ_d default hk2, List.mem_append, List.mem_singleton] at hx
        rcases hx with hx | rfl
        · exact hkl x hx
        · exact hb
      | false =>
        try simp (disch := first | omega | (simp only [PL]; omega)) only [PS, P1, P2, P3, P4, P5, P6, P7, P8, PA, PB, PC, Nat.reduceAdd, Nat.reduceSub, Nat.reduceMul, Nat.reduceLeDiff, Nat.reduceEqDiff, Nat.succ_ne_self, reduceCtorEq, Int.reduceToNat, Int.cast_ofNat_Int, Int.reduceEq, Int.reduceNe, Int.reduceLT, Int.reduceLE, RL, hk3, hb]
        exact k_meet _ (by try simp only [Pe, and_true, true_and, and_self]) ⟨rfl, k, hk, hkl, fun _ => hb, rfl⟩
    · have hk3 : ((k : Int) < (L.length : Int)) = False := by simp; omega
      try simp (disch := first | omega | (simp only [PL]; omega)) only [PS, P1, P2, P3, P4, P5, P6, P7, P8, PA, PB, PC, Nat.reduceAdd, Nat.reduceSub, Nat.reduceMul, Nat.reduceLeDiff, Nat.reduceEqDiff, Nat.succ_ne_self, reduceCtorEq, Int.reduceToNat, Int.cast_ofNat_Int, Int.reduceEq, Int.reduceNe, Int.reduceLT, Int.reduceLE, RL, hk3]
      exact k_meet _ (by try simp only [Pe, and_true, true_and, and_self]) ⟨rfl, k, hk, hkl, fun h => absurd h hk2, rfl⟩
  rintro env h3 ⟨rfl, k, hk, hkl, hkn, rfl⟩
  have hins : insT L s = L.take k ++ insT (L.drop k) s := by
    conv => lhs; rw [← List.take_append_drop k L]
    exact insT_pre s _ _ hkl
  by_cases hin : k < L.length ∧ L.getD k default = s
  · obtain ⟨hk2, hks⟩ := hin
    have hk3 : ((k : Int) < (L.length : Int)) = True := by simp; omega
    have hL2 : insT L s = L := by
      rw [hins]
      have h1 : L.drop k = L.getD k default :: L.drop (k + 1) := by
        rw [List.drop_eq_getElem_cons hk2]; simp [List.getD_eq_getElem?_getD, hk2]
      rw [h1]
      simp only [insT]
      rw [hkn hk2, if_neg (by simp), if_pos hks, ← h1, List.take_append_drop]
    rw [hL2] at hsn2
    try simp (disch := first | omega | (simp only [PL]; omega)) only [PS, P1, P2, P3, P4, P5, P6, P7, P8, PA, PB, PC, Nat.reduceAdd, Nat.reduceSub, Nat.reduceMul, Nat.reduceLeDiff, Nat.reduceEqDiff, Nat.succ_ne_self, reduceCtorEq, Int.reduceToNat, Int.cast_ofNat_Int, Int.reduceEq, Int.reduceNe, Int.reduceLT, Int.reduceLE, RL, hk3, hks]
    refine k_loop (i + 1, v2) (by dsimp only; omega) (by try simp only [Pe, and_true, true_and, and_self]) ⟨by dsimp only; omega, ?_⟩
    dsimp only
    rw [hsn2]; exact ho2
  · have hL2 : insT L s = L.take k ++ [s] ++ L.drop k := by
      rw [hins]
      by_cases hk2 : k < L.length
      · have h1 : L.drop k = L.getD k default :: L.drop (k + 1) := by
          rw [List.drop_eq_getElem_cons hk2]; simp [List.getD_eq_getElem?_getD, hk2]
        rw [h1]
        simp only [insT]
        rw [hkn hk2, if_neg (by simp), if_neg (fun e => hin ⟨hk2, e⟩)]; simp
      · rw [List.drop_eq_nil_of_le (by omega)]; simp [insT]
    rw [hL2] at hsn2
    have O3 := ho2.one
    by_cases hk2 : k < L.length
    rotate_left
    have hk3 : ((k : Int) < (L.length : Int)) = False := by simp; omega
    try simp (disch := first | omega | (simp only [PL]; omega)) only [PS, P1, P2, P3, P4, P5, P6, P7, P8, PA, PB, PC, Nat.reduceAdd, Nat.reduceSub, Nat.reduceMul, Nat.reduceLeDiff, Nat.reduceEqDiff, Nat.succ_ne_self, reduceCtorEq, Int.reduceToNat, Int.cast_ofNat_Int, Int.reduceEq, Int.reduceNe, Int.reduceLT, Int.reduceLE, RL, hk3]
    rotate_left
    have hk3 : ((k : Int) < (L.length : Int)) = True := by simp; omega
    have hk4 : (L.getD k default = s) = False := by simpa using fun e => hin ⟨hk2, e⟩
    try simp (disch := first | omega | (simp only [PL]; omega)) only [PS, P1, P2, P3, P4, P5, P6, P7, P8, PA, PB, PC, Nat.reduceAdd, Nat.reduceSub, Nat.reduceMul, Nat.reduceLeDiff, Nat.reduceEqDiff, Nat.succ_ne_self, reduceCtorEq, Int.reduceToNat, Int.cast_ofNat_Int, Int.reduceEq, Int.reduceNe, Int.reduceLT, Int.reduceLE, RL, hk3, hk4]
    all_goals
      refine i_bslB encT 1 (fun _ => rfl) [[]] rfl rfl (by simp [maxLen]) fun x1 b1 h4 hle4 hb1 hx1 hS1 => ?_
      have O2' := hS1.one
      try simp (disch := first | omega | (simp only [PL]; omega)) only [PS, P1, P2, P3, P4, P5, P6, P7, P8, PA, PB, PC, Nat.reduceAdd, Nat.reduceSub, Nat.reduceMul, Nat.reduceLeDiff, Nat.reduceEqDiff, Nat.succ_ne_self, reduceCtorEq, Int.reduceToNat, Int.cast_ofNat_Int, Int.reduceEq, Int.reduceNe, Int.reduceLT, Int.reduceLE]
      refine i_app1 (enc := encT) (fun _ => rfl) (l' := [[]]) (by simp [encT, one]) (ho2.le hle4) (SlB.sl (enc := encT) (fun _ => rfl) (hS1.le (fr_le _ _))) (by simp; omega) fun v5 h5 ho5 => ?_
      obtain ⟨d, sv, c1, c2, c3⟩ := i_cpyS (N := N) (Γ := Γ) (enc := encT) (fun _ => rfl) (z := []) (fun _ _ => rfl) ho5 hk
      have O5 := ho5.one
      have R5 := ho5.sl (enc := encT) (fun _ => rfl)
      have Rl5 := (R5.rules1 (fun t => .string (str t)) (fun _ => rfl) default).1
      have e51 : (L ++ [([] : List UInt8)]).length = L.length + 1 := by simp
      rw [e51] at Rl5
      try simp (disch := first | omega | (simp only [PL]; omega)) only [PS, P1, P2, P3, P4, P5, P6, P7, P8, PA, PB, PC, Nat.reduceAdd, Nat.reduceSub, Nat.reduceMul, Nat.reduceLeDiff, Nat.reduceEqDiff, Nat.succ_ne_self, reduceCtorEq, Int.reduceToNat, Int.cast_ofNat_Int, Int.reduceEq, Int.reduceNe, Int.reduceLT, Int.reduceLE, Rl5, c1, c2]
      refine c3 _ fun uu h6 ho6 => ?_
      have hlen6 : ((L ++ [([] : List UInt8)]).take (k + 1) ++ L.drop k).length = L.length + 1 := by simp; omega
      have Rl6 := ((ho6.sl (enc := encT) (fun _ => rfl)).rules1 (fun t => .string (str t)) (fun _ => rfl) default)
      rw [hlen6] at Rl6
      try simp (disch := first | omega | (simp only [PL]; omega)) only [PS, P1, P2, P3, P4, P5, P6, P7, P8, PA, PB, PC, Nat.reduceAdd, Nat.reduceSub, Nat.reduceMul, Nat.reduceLeDiff, Nat.reduceEqDiff, Nat.succ_ne_self, reduceCtorEq, Int.reduceToNat, Int.cast_ofNat_Int, Int.reduceEq, Int.reduceNe, Int.reduceLT, Int.reduceLE, Rl6]
      have hst := fun K hK => i_stS (N := N) (Γ := Γ) (enc := encT) (sz := 1) (fun _ => rfl) s rfl ho6 (x := .string (str s)) (j := k) (by omega) rfl (K := K) hK
      rw [Nat.mul_one] at hst
      refine hst _ fun h7 ho7 => ?_
      try simp (disch := first | omega | (simp only [PL]; omega)) only [PS, P1, P2, P3, P4, P5, P6, P7, P8, PA, PB, PC, Nat.reduceAdd, Nat.reduceSub, Nat.reduceMul, Nat.reduceLeDiff, Nat.reduceEqDiff, Nat.succ_ne_self, reduceCtorEq, Int.reduceToNat, Int.cast_ofNat_Int, Int.reduceEq, Int.reduceNe, Int.reduceLT, Int.reduceLE]
      refine k_loop (i + 1, v5) (by dsimp only; omega) (by try simp only [Pe, and_true, true_and, and_self]) ⟨by dsimp only; omega, ?_⟩
      dsimp only
      rw [hsn2]
      have : ((L ++ [([] : List UInt8)]).take (k + 1) ++ L.drop k).set k s = L.take k ++ [s] ++ L.drop k := by
        have hkt : ((L ++ [([] : List UInt8)]).take (k + 1)).length = k + 1 := by simp; omega
        rw [List.set_append_left _ _ (by omega)]
        congr 1
        apply List.ext_getElem
        · simp
        · intro j h1 h2
          rw [List.getElem_set]
          by_cases e : k = j
          · subst e
            rw [if_pos rfl, List.getElem_append_right (by simp; omega)]
            simp
          · have hj : j < k := by simp at h2; omega
            rw [if_neg e, List.getElem_append_left (by simp; omega)]
            simp only [List.getElem_take]
            rw [List.getElem_append_left (by omega)]
      rw [this] at ho7
      exact ho7
end Go.Cw
/- Tags: what their bytes say. -/
namespace Go.Cw
open Go

structure Tg where
  kind : Int
  filter : Int
  part : Int
  company : Int
  ref : Int
  serial : Int
  deriving DecidableEq, Inhabited
def Tg.enc (t : Tg) : List Value := [.int .i64 t.kind, .int .i64 t.filter, .int .i64 t.part, .int .i64 t.company, .int .i64 t.ref, .int .i64 t.serial]
def Tg.zero : Tg := ⟨0, 0, 0, 0, 0, 0⟩
structure Pa where
  cb : Nat
  cd : Nat
  rb : Nat
  rd : Nat
  deriving DecidableEq, Inhabited
def Pa.enc (p : Pa) : List Value := [.int .i64 p.cb, .int .i64 p.cd, .int .i64 p.rb, .int .i64 p.rd]
def partsOf (p : Int) : Option Pa :=
  if p = 0 then some ⟨20, 6, 6, 1⟩ else if p = 1 then some ⟨17, 5, 9, 2⟩ else if p = 2 then some ⟨14, 4, 12, 3⟩ else if p = 3 then some ⟨10, 3, 16, 4⟩ else if p = 4 then some ⟨7, 2, 19, 5⟩ else if p = 5 then some ⟨4, 1, 22, 6⟩ else none
theorem partsOf_none {p : Int} : partsOf p = none ↔ p < 0 ∨ 6 ≤ p := by
  unfold partsOf
  repeat' split
  all_goals simp
  all_goals omega
theorem partsOf_some {p : Int} {a : Pa} (h : partsOf p = some a) : a.cb + a.rb = 26 ∧ 1 ≤ a.cd ∧ a.cd ≤ 6 ∧ 1 ≤ a.rd ∧ a.rd ≤ 6 ∧ 4 ≤ a.cb ∧ a.cb ≤ 20 ∧ 6 ≤ a.rb ∧ a.rb ≤ 22 := by
  unfold partsOf at h
  repeat' split at h
  all_goals first | (cases h; done) | (cases h; simp)
/-- is a tag none that may be? -/
def Tg.bad (t : Tg) : Prop := match partsOf t.part with
  | none => True
  | some a => t.kind < 1 ∨ 3 < t.kind ∨ t.filter < 0 ∨ 7 < t.filter ∨ t.serial < 0 ∨ 16777215 < t.serial ∨ t.company < 0 ∨ (10 ^ a.cd : Nat) ≤ t.company ∨ t.ref < 0 ∨ (10 ^ a.rd : Nat) ≤ t.ref
instance Tg.decBad (t : Tg) : Decidable t.bad := by unfold Tg.bad; split <;> infer_instance

/-- eight bytes as one number -/
def num (b : List UInt8) : Nat := b.foldl (fun a x => a * 256 + x.toNat) 0
theorem num_snoc (b : List UInt8) (x : UInt8) : num (b ++ [x]) = num b * 256 + x.toNat := by simp [num]
theorem num_lt (b : List UInt8) : num b < 256 ^ b.length := by
  induction b using snoc_ind with
  | h0 => simp [num]
  | hs b x ih =>
    have := x.toNat_lt
    rw [num_snoc, List.length_append, List.length_singleton, Nat.pow_succ]
    omega
def bitAt (b : List UInt8) (i : Nat) : Nat := (b.getD (i / 8) 0).toNat / 2 ^ (7 - i % 8) % 2
theorem mod256_bit (y : Nat) {s : Nat} (hs : s ≤ 7) : (y % 256) / 2 ^ s % 2 = y / 2 ^ s % 2 := by
  have : s = 0 ∨ s = 1 ∨ s = 2 ∨ s = 3 ∨ s = 4 ∨ s = 5 ∨ s = 6 ∨ s = 7 := by omega
  rcases this with rfl | rfl | rfl | rfl | rfl | rfl | rfl | rfl <;> simp only [Nat.reducePow] <;> omega
theorem byte_num {b : List UInt8} (hb : b.length = 8) {j : Nat} (hj : j < 8) : (b.getD j 0).toNat = num b / 2 ^ (56 - 8 * j) % 256 := by
  match b, hb with
  | [b0, b1, b2, b3, b4, b5, b6, b7], _ =>
    have h0 := b0.toNat_lt
    have h1 := b1.toNat_lt
    have h2 := b2.toNat_lt
    have h3 := b3.toNat_lt
    have h4 := b4.toNat_lt
    have h5 := b5.toNat_lt
    have h6 := b6.toNat_lt
    have h7 := b7.toNat_lt
    unfold num
    simp only [List.foldl_cons, List.foldl_nil]
    have : j = 0 ∨ j = 1 ∨ j = 2 ∨ j = 3 ∨ j = 4 ∨ j = 5 ∨ j = 6 ∨ j = 7 := by omega
    rcases this with rfl | rfl | rfl | rfl | rfl | rfl | rfl | rfl <;> simp only [List.getD_cons_zero, List.getD_cons_succ, Nat.reduceMul, Nat.reduceSub, Nat.reducePow] <;> omega
theorem bitAt_num {b : List UInt8} (hb : b.length = 8) {i : Nat} (hi : i < 64) : bitAt b i = num b / 2 ^ (63 - i) % 2 := by
  unfold bitAt
  rw [byte_num hb (show i / 8 < 8 by omega), mod256_bit _ (by omega), Nat.div_div_eq_div_mul, ← Nat.pow_add]
  congr 3; omega

/-- so many bits from a place on -/
def rdBits (b : List UInt8) (at_ : Nat) : Nat → Nat
  | 0 => 0
  | k + 1 => 2 * rdBits b at_ k + bitAt b (at_ + k)
theorem rdBits_num {b : List UInt8} (hb : b.length = 8) (at_ : Nat) : ∀ k, at_ + k ≤ 64 → rdBits b at_ k = num b / 2 ^ (64 - at_ - k) % 2 ^ k := by
  intro k
  induction k with
  | zero => intro _; simp [rdBits, Nat.mod_one]
  | succ k ih =>
    intro h
    rw [rdBits, ih (by omega), bitAt_num hb (by omega)]
    have e1 : 64 - at_ - k = (64 - at_ - (k + 1)) + 1 := by omega
    have e2 : 63 - (at_ + k) = 64 - at_ - (k + 1) := by omega
    rw [e1, e2, Nat.pow_succ, Nat.pow_succ, ← Nat.div_div_eq_div_mul, Nat.mul_comm (2 ^ k) 2, Nat.mod_mul]
    omega

def tagAt (n : Nat) (a : Pa) : Tg := ⟨((n / 2 ^ 56 : Nat) : Int) - 47, (n / 2 ^ 53 % 8 : Nat), (n / 2 ^ 50 % 8 : Nat), (n / 2 ^ (24 + a.rb) % 2 ^ a.cb : Nat), (n / 2 ^ 24 % 2 ^ a.rb : Nat), (n % 2 ^ 24 : Nat)⟩
/-- the tag of eight bytes -/
def tagOf (b : List UInt8) : Option Tg :=
  if b.length ≠ 8 then none else match partsOf (num b / 2 ^ 50 % 8 : Nat) with
    | none => none
    | some a => if (tagAt (num b) a).bad then none else some (tagAt (num b) a)
def kindOf (b : List UInt8) : Int := match tagOf b with
  | none => 0
  | some t => t.kind
theorem kindOf_range (b : List UInt8) : 0 ≤ kindOf b ∧ kindOf b ≤ 3 := by
  unfold kindOf
  cases h : tagOf b with
  | none => simp
  | some t =>
    unfold tagOf at h
    split at h
    · cases h
    · split at h
      · cases h
      · split at h <;> cases h
        rename_i hb
        unfold Tg.bad at hb
        split at hb
        · simp at hb
        · dsimp only; omega
end Go.Cw
namespace Go.Cw
open Go

theorem i_cal {N : Num} {Γ : Ctx} {S : Spec} {k : Nat} {us : List Value} {caps : Array Value} {h : Heap} {K : Value → Heap → Prop} (hs : Sat S (Γ k)) (hx : S (us ++ caps.toList) h K) : efW N Γ .cal (.func (.func (N.fid k)) #[] caps :: us) h K := ⟨k, rfl, rfl, hs _ _ _ hx⟩

def paV (p : Int) : Value := .agg ((partsOf p).elim [.int .i64 0, .int .i64 0, .int .i64 0, .int .i64 0] Pa.enc).toArray
def S79 : Spec := fun args h K => ∃ p, args = [.int .i64 p] ∧ K (.tuple #[paV p, .bool (partsOf p).isSome]) h
theorem F79_ok {N : Num} {Γ : Ctx} [GoodC Γ] : Sat S79 (SF N Γ F79) := by
  rintro _ h K ⟨p, rfl, hK⟩
  refine i_fun rfl ?_
  simp only [F79, env0, List.map, List.length, List.replicate, List.cons_append, List.nil_append, Nat.reduceSub, Nat.reduceAdd]
  unfold paV partsOf at hK
  try simp (disch := first | omega | (simp only [PL]; omega)) only [PS, P1, P2, P3, P4, P5, P6, P7, P8, PA, PB, PC, Nat.reduceAdd, Nat.reduceSub, Nat.reduceMul, Nat.reduceLeDiff, Nat.reduceEqDiff, Nat.succ_ne_self, reduceCtorEq, Int.reduceToNat, Int.cast_ofNat_Int, Int.reduceEq, Int.reduceNe, Int.reduceLT, Int.reduceLE]
  refine i_cond (fun c => ?_) (fun c => ?_)
  · rw [if_pos (by omega)] at hK
    try simp (disch := first | omega | (simp only [PL]; omega)) only [PS, P1, P2, P3, P4, P5, P6, P7, P8, PA, PB, PC, Nat.reduceAdd, Nat.reduceSub, Nat.reduceMul, Nat.reduceLeDiff, Nat.reduceEqDiff, Nat.succ_ne_self, reduceCtorEq, Int.reduceToNat, Int.cast_ofNat_Int, Int.reduceEq, Int.reduceNe, Int.reduceLT, Int.reduceLE]
    exact hK
  rw [if_neg (by omega)] at hK
  try simp (disch := first | omega | (simp only [PL]; omega)) only [PS, P1, P2, P3, P4, P5, P6, P7, P8, PA, PB, PC, Nat.reduceAdd, Nat.reduceSub, Nat.reduceMul, Nat.reduceLeDiff, Nat.reduceEqDiff, Nat.succ_ne_self, reduceCtorEq, Int.reduceToNat, Int.cast_ofNat_Int, Int.reduceEq, Int.reduceNe, Int.reduceLT, Int.reduceLE]
  refine i_cond (fun c => ?_) (fun c => ?_)
  · rw [if_pos (by omega)] at hK
    try simp (disch := first | omega | (simp only [PL]; omega)) only [PS, P1, P2, P3, P4, P5, P6, P7, P8, PA, PB, PC, Nat.reduceAdd, Nat.reduceSub, Nat.reduceMul, Nat.reduceLeDiff, Nat.reduceEqDiff, Nat.succ_ne_self, reduceCtorEq, Int.reduceToNat, Int.cast_ofNat_Int, Int.reduceEq, Int.reduceNe, Int.reduceLT, Int.reduceLE]
    exact hK
  rw [if_neg (by omega)] at hK
  try simp (disch := first | omega | (simp only [PL]; omega)) only [PS, P1, P2, P3, P4, P5, P6, P7, P8, PA, PB, PC, Nat.reduceAdd, Nat.reduceSub, Nat.reduceMul, Nat.reduceLeDiff, Nat.reduceEqDiff, Nat.succ_ne_self, reduceCtorEq, Int.reduceToNat, Int.cast_ofNat_Int, Int.reduceEq, Int.reduceNe, Int.reduceLT, Int.reduceLE]
  refine i_cond (fun c => ?_) (fun c => ?_)
  · rw [if_pos (by omega)] at hK
    try simp (disch := first | omega | (simp only [PL]; omega)) only [PS, P1, P2, P3, P4, P5, P6, P7, P8, PA, PB, PC, Nat.reduceAdd, Nat.reduceSub, Nat.reduceMul, Nat.reduceLeDiff, Nat.reduceEqDiff, Nat.succ_ne_self, reduceCtorEq, Int.reduceToNat, Int.cast_ofNat_Int, Int.reduceEq, Int.reduceNe, Int.reduceLT, Int.reduceLE]
    exact hK
  rw [if_neg (by omega)] at hK
  try simp (disch := first | omega | (simp only [PL]; omega)) only [PS, P1, P2, P3, P4, P5, P6, P7, P8, PA, PB, PC, Nat.reduceAdd, Nat.reduceSub, Nat.reduceMul, Nat.reduceLeDiff, Nat.reduceEqDiff, Nat.succ_ne_self, reduceCtorEq, Int.reduceToNat, Int.cast_ofNat_Int, Int.reduceEq, Int.reduceNe, Int.reduceLT, Int.reduceLE]
  refine i_cond (fun c => ?_) (fun c => ?_)
  · rw [if_pos (by omega)] at hK
    try simp (disch := first | omega | (simp only [PL]; omega)) only [PS, P1, P2, P3, P4, P5, P6, P7, P8, PA, PB, PC, Nat.reduceAdd, Nat.reduceSub, Nat.reduceMul, Nat.reduceLeDiff, Nat.reduceEqDiff, Nat.succ_ne_self, reduceCtorEq, Int.reduceToNat, Int.cast_ofNat_Int, Int.reduceEq, Int.reduceNe, Int.reduceLT, Int.reduceLE]
    exact hK
  rw [if_neg (by omega)] at hK
  try simp (disch := first | omega | (simp only [PL]; omega)) only [PS, P1, P2, P3, P4, P5, P6, P7, P8, PA, PB, PC, Nat.reduceAdd, Nat.reduceSub, Nat.reduceMul, Nat.reduceLeDiff, Nat.reduceEqDiff, Nat.succ_ne_self, reduceCtorEq, Int.reduceToNat, Int.cast_ofNat_Int, Int.reduceEq, Int.reduceNe, Int.reduceLT, Int.reduceLE]
  refine i_cond (fun c => ?_) (fun c => ?_)
  · rw [if_pos (by omega)] at hK
    try simp (disch := first | omega | (simp only [PL]; omega)) only [PS, P1, P2, P3, P4, P5, P6, P7, P8, PA, PB, PC, Nat.reduceAdd, Nat.reduceSub, Nat.reduceMul, Nat.reduceLeDiff, Nat.reduceEqDiff, Nat.succ_ne_self, reduceCtorEq, Int.reduceToNat, Int.cast_ofNat_Int, Int.reduceEq, Int.reduceNe, Int.reduceLT, Int.reduceLE]
    exact hK
  rw [if_neg (by omega)] at hK
  try simp (disch := first | omega | (simp only [PL]; omega)) only [PS, P1, P2, P3, P4, P5, P6, P7, P8, PA, PB, PC, Nat.reduceAdd, Nat.reduceSub, Nat.reduceMul, Nat.reduceLeDiff, Nat.reduceEqDiff, Nat.succ_ne_self, reduceCtorEq, Int.reduceToNat, Int.cast_ofNat_Int, Int.reduceEq, Int.reduceNe, Int.reduceLT, Int.reduceLE]
  refine i_cond (fun c => ?_) (fun c => ?_)
  · rw [if_pos (by omega)] at hK
    try simp (disch := first | omega | (simp only [PL]; omega)) only [PS, P1, P2, P3, P4, P5, P6, P7, P8, PA, PB, PC, Nat.reduceAdd, Nat.reduceSub, Nat.reduceMul, Nat.reduceLeDiff, Nat.reduceEqDiff, Nat.succ_ne_self, reduceCtorEq, Int.reduceToNat, Int.cast_ofNat_Int, Int.reduceEq, Int.reduceNe, Int.reduceLT, Int.reduceLE]
    exact hK
  rw [if_neg (by omega)] at hK
  try simp (disch := first | omega | (simp only [PL]; omega)) only [PS, P1, P2, P3, P4, P5, P6, P7, P8, PA, PB, PC, Nat.reduceAdd, Nat.reduceSub, Nat.reduceMul, Nat.reduceLeDiff, Nat.reduceEqDiff, Nat.succ_ne_self, reduceCtorEq, Int.reduceToNat, Int.cast_ofNat_Int, Int.reduceEq, Int.reduceNe, Int.reduceLT, Int.reduceLE]
  exact hK

def S117 : Spec := fun args h K => ∃ n : Nat, args = [.int .i64 n] ∧ n ≤ 18 ∧ K (.int .i64 (10 ^ n : Nat)) h
theorem F117_ok {N : Num} {Γ : Ctx} [GoodC Γ] : Sat S117 (SF N Γ F117) := by
  rintro _ h K ⟨n, rfl, hn, hK⟩
  refine i_fun rfl ?_
  simp only [F117, env0, List.map, List.length, List.replicate, List.cons_append, List.nil_append, Nat.reduceSub, Nat.reduceAdd]
  try simp (disch := first | omega | (simp only [PL]; omega)) only [PS, P1, P2, P3, P4, P5, P6, P7, P8, PA, PB, PC, Nat.reduceAdd, Nat.reduceSub, Nat.reduceMul, Nat.reduceLeDiff, Nat.reduceEqDiff, Nat.succ_ne_self, reduceCtorEq, Int.reduceToNat, Int.cast_ofNat_Int, Int.reduceEq, Int.reduceNe, Int.reduceLT, Int.reduceLE]
  refine i_loop (fun i : Nat => [some (.int .i64 n), some (.int .i64 0), some (.int .i64 (10 ^ i : Nat)), some (.int .i64 n), some (.int .i64 i), none]) (fun i h1 => h1 = h ∧ i ≤ n) (fun i => n - i) 0 (by rw [Nat.pow_zero]; try simp only [Pe, and_true, true_and, and_self]; exact ⟨rfl, rfl⟩) ⟨rfl, by omega⟩ ?_
  rintro i h1 ⟨rfl, hi⟩
  try simp (disch := first | omega | (simp only [PL]; omega)) only [PS, P1, P2, P3, P4, P5, P6, P7, P8, PA, PB, PC, Nat.reduceAdd, Nat.reduceSub, Nat.reduceMul, Nat.reduceLeDiff, Nat.reduceEqDiff, Nat.succ_ne_self, reduceCtorEq, Int.reduceToNat, Int.cast_ofNat_Int, Int.reduceEq, Int.reduceNe, Int.reduceLT, Int.reduceLE]
  refine i_cond (fun c => ?_) (fun c => ?_)
  · have hp : 10 ^ i * 10 ≤ 10 ^ 18 := by rw [← Nat.pow_succ]; exact Nat.pow_le_pow_right (by omega) (by omega)
    have hp2 : IntKind.i64.wrap (((10 ^ i : Nat) : Int) * 10) = ((10 ^ (i + 1) : Nat) : Int) := by
      rw [w64 (by omega) (by omega), Nat.pow_succ]; omega
    try simp (disch := first | omega | (simp only [PL]; omega)) only [PS, P1, P2, P3, P4, P5, P6, P7, P8, PA, PB, PC, Nat.reduceAdd, Nat.reduceSub, Nat.reduceMul, Nat.reduceLeDiff, Nat.reduceEqDiff, Nat.succ_ne_self, reduceCtorEq, Int.reduceToNat, Int.cast_ofNat_Int, Int.reduceEq, Int.reduceNe, Int.reduceLT, Int.reduceLE, hp2]
    exact k_loop (i + 1) (by omega) (by try simp only [Pe, and_true, true_and, and_self]) ⟨rfl, by omega⟩
  · have : i = n := by omega
    subst this
    try simp (disch := first | omega | (simp only [PL]; omega)) only [PS, P1, P2, P3, P4, P5, P6, P7, P8, PA, PB, PC, Nat.reduceAdd, Nat.reduceSub, Nat.reduceMul, Nat.reduceLeDiff, Nat.reduceEqDiff, Nat.succ_ne_self, reduceCtorEq, Int.reduceToNat, Int.cast_ofNat_Int, Int.reduceEq, Int.reduceNe, Int.reduceLT, Int.reduceLE]
    exact hK
def S107 : Spec := fun args h K => ∃ p, args = [.int .i64 p] ∧ ∀ h', Heap.le h h' → K (.tuple #[paV p, .bool (partsOf p).isSome]) h'
theorem F107_ok {N : Num} {Γ : Ctx} [GoodC Γ] : Sat S107 (SF N Γ F107) := by
  rintro _ h K ⟨p, rfl, hK⟩
  refine i_fun rfl ?_
  simp only [F107, env0, List.map, List.length, List.replicate, List.cons_append, List.nil_append, Nat.reduceSub, Nat.reduceAdd]
  try simp (disch := first | omega | (simp only [PL]; omega)) only [PS, P1, P2, P3, P4, P5, P6, P7, P8, PA, PB, PC, Nat.reduceAdd, Nat.reduceSub, Nat.reduceMul, Nat.reduceLeDiff, Nat.reduceEqDiff, Nat.succ_ne_self, reduceCtorEq, Int.reduceToNat, Int.cast_ofNat_Int, Int.reduceEq, Int.reduceNe, Int.reduceLT, Int.reduceLE]
  refine i_newO fun b h1 hle1 hb ho => ?_
  try simp (disch := first | omega | (simp only [PL]; omega)) only [PS, P1, P2, P3, P4, P5, P6, P7, P8, PA, PB, PC, Nat.reduceAdd, Nat.reduceSub, Nat.reduceMul, Nat.reduceLeDiff, Nat.reduceEqDiff, Nat.succ_ne_self, reduceCtorEq, Int.reduceToNat, Int.cast_ofNat_Int, Int.reduceEq, Int.reduceNe, Int.reduceLT, Int.reduceLE]
  have ho1 := ho.le (fr_le h h1)
  refine i_st ho1 0 24 rfl rfl (by omega) (Nat.le_refl 24) fun o hob _ => ?_
  have hob2 : objAt (h1.set b o) ⟨b, 0, none⟩ [.int .i64 20, .int .i64 6, .int .i64 6, .int .i64 1, .int .i64 17, .int .i64 5, .int .i64 9, .int .i64 2, .int .i64 14, .int .i64 4, .int .i64 12, .int .i64 3, .int .i64 10, .int .i64 3, .int .i64 16, .int .i64 4, .int .i64 7, .int .i64 2, .int .i64 19, .int .i64 5, .int .i64 4, .int .i64 1, .int .i64 22, .int .i64 6] := hob h1 rfl
  have hle2 : Heap.le h (h1.set b o) := by
    intro x ob hx
    have : x ≠ b := by intro e; subst e; rw [hb] at hx; cases hx
    rw [Heap.set_ne this]; exact hle1 x ob hx
  generalize h1.set b o = h2 at *
  have hrow := hob2.row
  have hK2 := hK h2 hle2
  clear hK
  try simp (disch := first | omega | (simp only [PL]; omega)) only [PS, P1, P2, P3, P4, P5, P6, P7, P8, PA, PB, PC, Nat.reduceAdd, Nat.reduceSub, Nat.reduceMul, Nat.reduceLeDiff, Nat.reduceEqDiff, Nat.succ_ne_self, reduceCtorEq, Int.reduceToNat, Int.cast_ofNat_Int, Int.reduceEq, Int.reduceNe, Int.reduceLT, Int.reduceLE]
  refine i_cond (fun c => ?_) (fun c => ?_)
  · have hn := partsOf_none.2 (show p < 0 ∨ 6 ≤ p by omega)
    unfold paV at hK2
    rw [hn] at hK2
    try simp (disch := first | omega | (simp only [PL]; omega)) only [PS, P1, P2, P3, P4, P5, P6, P7, P8, PA, PB, PC, Nat.reduceAdd, Nat.reduceSub, Nat.reduceMul, Nat.reduceLeDiff, Nat.reduceEqDiff, Nat.succ_ne_self, reduceCtorEq, Int.reduceToNat, Int.cast_ofNat_Int, Int.reduceEq, Int.reduceNe, Int.reduceLT, Int.reduceLE]
    exact hK2
  · have hp : p = 0 ∨ p = 1 ∨ p = 2 ∨ p = 3 ∨ p = 4 ∨ p = 5 := by omega
    have r0 := hrow.row (i := 0) (n := 4) (by simp)
    have r1 := hrow.row (i := 4) (n := 4) (by simp)
    have r2 := hrow.row (i := 8) (n := 4) (by simp)
    have r3 := hrow.row (i := 12) (n := 4) (by simp)
    have r4 := hrow.row (i := 16) (n := 4) (by simp)
    have r5 := hrow.row (i := 20) (n := 4) (by simp)
    have haa : ∀ (k : IntKind) (n : Nat), n < 6 → o2V h2 (.aadr 6 4) (.v (.pointer (some ⟨b, 0, none⟩))) (.v (.int k (n : Int))) = some (.v (.pointer (some ((⟨b, 0, none⟩ : Addr).add (n * 4))))) := by
      intro k n hn
      have hb : inBounds (n : Int) 6 = true := by simp [inBounds]; omega
      simp only [o2V, hb, if_true, Int.toNat_natCast]
    rcases hp with rfl | rfl | rfl | rfl | rfl | rfl
    · have := haa .i64 0 (by omega)
      try simp (disch := first | omega | (simp only [PL]; omega)) only [PS, P1, P2, P3, P4, P5, P6, P7, P8, PA, PB, PC, Nat.reduceAdd, Nat.reduceSub, Nat.reduceMul, Nat.reduceLeDiff, Nat.reduceEqDiff, Nat.succ_ne_self, reduceCtorEq, Int.reduceToNat, Int.cast_ofNat_Int, Int.reduceEq, Int.reduceNe, Int.reduceLT, Int.reduceLE, this, r0]
      exact hK2
    · have := haa .i64 1 (by omega)
      try simp (disch := first | omega | (simp only [PL]; omega)) only [PS, P1, P2, P3, P4, P5, P6, P7, P8, PA, PB, PC, Nat.reduceAdd, Nat.reduceSub, Nat.reduceMul, Nat.reduceLeDiff, Nat.reduceEqDiff, Nat.succ_ne_self, reduceCtorEq, Int.reduceToNat, Int.cast_ofNat_Int, Int.reduceEq, Int.reduceNe, Int.reduceLT, Int.reduceLE, this, r1]
      exact hK2
    · have := haa .i64 2 (by omega)
      try simp (disch := first | omega | (simp only [PL]; omega)) only [PS, P1, P2, P3, P4, P5, P6, P7, P8, PA, PB, PC, Nat.reduceAdd, Nat.reduceSub, Nat.reduceMul, Nat.reduceLeDiff, Nat.reduceEqDiff, Nat.succ_ne_self, reduceCtorEq, Int.reduceToNat, Int.cast_ofNat_Int, Int.reduceEq, Int.reduceNe, Int.reduceLT, Int.reduceLE, this, r2]
      exact hK2
    · have := haa .i64 3 (by omega)
      try simp (disch := first | omega | (simp only [PL]; omega)) only [PS, P1, P2, P3, P4, P5, P6, P7, P8, PA, PB, PC, Nat.reduceAdd, Nat.reduceSub, Nat.reduceMul, Nat.reduceLeDiff, Nat.reduceEqDiff, Nat.succ_ne_self, reduceCtorEq, Int.reduceToNat, Int.cast_ofNat_Int, Int.reduceEq, Int.reduceNe, Int.reduceLT, Int.reduceLE, this, r3]
      exact hK2
    · have := haa .i64 4 (by omega)
      try simp (disch := first | omega | (simp only [PL]; omega)) only [PS, P1, P2, P3, P4, P5, P6, P7, P8, PA, PB, PC, Nat.reduceAdd, Nat.reduceSub, Nat.reduceMul, Nat.reduceLeDiff, Nat.reduceEqDiff, Nat.succ_ne_self, reduceCtorEq, Int.reduceToNat, Int.cast_ofNat_Int, Int.reduceEq, Int.reduceNe, Int.reduceLT, Int.reduceLE, this, r4]
      exact hK2
    · have := haa .i64 5 (by omega)
      try simp (disch := first | omega | (simp only [PL]; omega)) only [PS, P1, P2, P3, P4, P5, P6, P7, P8, PA, PB, PC, Nat.reduceAdd, Nat.reduceSub, Nat.reduceMul, Nat.reduceLeDiff, Nat.reduceEqDiff, Nat.succ_ne_self, reduceCtorEq, Int.reduceToNat, Int.cast_ofNat_Int, Int.reduceEq, Int.reduceNe, Int.reduceLT, Int.reduceLE, this, r5]
      exact hK2
end Go.Cw
namespace Go.Cw
open Go

def aggT (t : Tg) : Value := .agg #[.int .i64 t.kind, .int .i64 t.filter, .int .i64 t.part, .int .i64 t.company, .int .i64 t.ref, .int .i64 t.serial]
def faultT (t : Tg) : Nat := if t.bad then 1 else 0
theorem Tg.bad_none {t : Tg} (h : partsOf t.part = none) : t.bad := by unfold Tg.bad; rw [h]; trivial
theorem Tg.bad_some {t : Tg} {a : Pa} (h : partsOf t.part = some a) : t.bad ↔ (t.kind < 1 ∨ 3 < t.kind ∨ t.filter < 0 ∨ 7 < t.filter ∨ t.serial < 0 ∨ 16777215 < t.serial ∨ t.company < 0 ∨ (10 ^ a.cd : Nat) ≤ t.company ∨ t.ref < 0 ∨ (10 ^ a.rd : Nat) ≤ t.ref) := by unfold Tg.bad; rw [h]
theorem fault_bad {t : Tg} (h : t.bad) : faultT t = 1 := if_pos h
theorem fault_ok {t : Tg} (h : ¬ t.bad) : faultT t = 0 := if_neg h
def S128 : Spec := fun args h K => ∃ t : Tg, args = [aggT t] ∧ t.company ≤ 9223372036854775807 ∧ t.ref ≤ 9223372036854775807 ∧ ∀ h', Heap.le h h' → K (.int .i64 (faultT t : Nat)) h'
theorem F128_ok {N : Num} {Γ : Ctx} [GoodC Γ] (H79 : Sat S79 (Γ 79)) (H85 : Sat S85 (Γ 85)) : Sat S128 (SF N Γ F128) := by
  rintro _ h K ⟨t, rfl, hc, hr, hK⟩
  refine i_fun rfl ?_
  simp only [F128, env0, List.map, List.length, List.replicate, List.cons_append, List.nil_append, Nat.reduceSub, Nat.reduceAdd, aggT]
  try simp (disch := first | omega | (simp only [PL]; omega)) only [PS, P1, P2, P3, P4, P5, P6, P7, P8, PA, PB, PC, Nat.reduceAdd, Nat.reduceSub, Nat.reduceMul, Nat.reduceLeDiff, Nat.reduceEqDiff, Nat.succ_ne_self, reduceCtorEq, Int.reduceToNat, Int.cast_ofNat_Int, Int.reduceEq, Int.reduceNe, Int.reduceLT, Int.reduceLE]
  refine i_call H79 ⟨t.part, rfl, ?_⟩
  cases hp : partsOf t.part with
  | none =>
    rw [fault_bad (Tg.bad_none hp)] at hK
    simp only [paV, hp, Option.elim]
    try simp (disch := first | omega | (simp only [PL]; omega)) only [PS, P1, P2, P3, P4, P5, P6, P7, P8, PA, PB, PC, Nat.reduceAdd, Nat.reduceSub, Nat.reduceMul, Nat.reduceLeDiff, Nat.reduceEqDiff, Nat.succ_ne_self, reduceCtorEq, Int.reduceToNat, Int.cast_ofNat_Int, Int.reduceEq, Int.reduceNe, Int.reduceLT, Int.reduceLE]
    refine i_newO fun b h1 hle1 hb ho => ?_
    try simp (disch := first | omega | (simp only [PL]; omega)) only [PS, P1, P2, P3, P4, P5, P6, P7, P8, PA, PB, PC, Nat.reduceAdd, Nat.reduceSub, Nat.reduceMul, Nat.reduceLeDiff, Nat.reduceEqDiff, Nat.succ_ne_self, reduceCtorEq, Int.reduceToNat, Int.cast_ofNat_Int, Int.reduceEq, Int.reduceNe, Int.reduceLT, Int.reduceLE]
    refine i_st (ho.le (fr_le h h1)) 0 4 rfl rfl (by omega) (Nat.le_refl 4) fun o hob _ => ?_
    have hle2 : Heap.le h (h1.set b o) := by
      intro x ob hx
      have : x ≠ b := by intro e; subst e; rw [hb] at hx; cases hx
      rw [Heap.set_ne this]; exact hle1 x ob hx
    try simp (disch := first | omega | (simp only [PL]; omega)) only [PS, P1, P2, P3, P4, P5, P6, P7, P8, PA, PB, PC, Nat.reduceAdd, Nat.reduceSub, Nat.reduceMul, Nat.reduceLeDiff, Nat.reduceEqDiff, Nat.succ_ne_self, reduceCtorEq, Int.reduceToNat, Int.cast_ofNat_Int, Int.reduceEq, Int.reduceNe, Int.reduceLT, Int.reduceLE]
    exact hK _ hle2
  | some a =>
    have hbad := Tg.bad_some hp
    simp only [paV, hp, Option.elim, Pa.enc]
    try simp (disch := first | omega | (simp only [PL]; omega)) only [PS, P1, P2, P3, P4, P5, P6, P7, P8, PA, PB, PC, Nat.reduceAdd, Nat.reduceSub, Nat.reduceMul, Nat.reduceLeDiff, Nat.reduceEqDiff, Nat.succ_ne_self, reduceCtorEq, Int.reduceToNat, Int.cast_ofNat_Int, Int.reduceEq, Int.reduceNe, Int.reduceLT, Int.reduceLE]
    refine i_newO fun b h1 hle1 hb ho => ?_
    try simp (disch := first | omega | (simp only [PL]; omega)) only [PS, P1, P2, P3, P4, P5, P6, P7, P8, PA, PB, PC, Nat.reduceAdd, Nat.reduceSub, Nat.reduceMul, Nat.reduceLeDiff, Nat.reduceEqDiff, Nat.succ_ne_self, reduceCtorEq, Int.reduceToNat, Int.cast_ofNat_Int, Int.reduceEq, Int.reduceNe, Int.reduceLT, Int.reduceLE]
    refine i_st (ho.le (fr_le h h1)) 0 4 rfl rfl (by omega) (Nat.le_refl 4) fun o hob _ => ?_
    have hob2 : objAt (h1.set b o) ⟨b, 0, none⟩ [.int .i64 a.cb, .int .i64 a.cd, .int .i64 a.rb, .int .i64 a.rd] := hob h1 rfl
    have hle2 : Heap.le h (h1.set b o) := by
      intro x ob hx
      have : x ≠ b := by intro e; subst e; rw [hb] at hx; cases hx
      rw [Heap.set_ne this]; exact hle1 x ob hx
    generalize h1.set b o = h2 at *
    have B1 : h2.cell ((⟨b, 0, none⟩ : Addr).add 1) = some (.int .i64 a.cd) := hob2.rules.1 1 (by simp)
    have B3 := fun h3 (hl : Heap.le h2 h3) => ((hob2.le hl).rules.1 3 (by simp) : h3.cell ((⟨b, 0, none⟩ : Addr).add 3) = some (.int .i64 a.rd))
    have hpa := partsOf_some hp
    try simp (disch := first | omega | (simp only [PL]; omega)) only [PS, P1, P2, P3, P4, P5, P6, P7, P8, PA, PB, PC, Nat.reduceAdd, Nat.reduceSub, Nat.reduceMul, Nat.reduceLeDiff, Nat.reduceEqDiff, Nat.succ_ne_self, reduceCtorEq, Int.reduceToNat, Int.cast_ofNat_Int, Int.reduceEq, Int.reduceNe, Int.reduceLT, Int.reduceLE]
    refine i_cond (fun c1 => ?_) (fun c1 => ?_)
    · have := hK h2 hle2
      rw [fault_bad (hbad.2 (by omega))] at this
      try simp (disch := first | omega | (simp only [PL]; omega)) only [PS, P1, P2, P3, P4, P5, P6, P7, P8, PA, PB, PC, Nat.reduceAdd, Nat.reduceSub, Nat.reduceMul, Nat.reduceLeDiff, Nat.reduceEqDiff, Nat.succ_ne_self, reduceCtorEq, Int.reduceToNat, Int.cast_ofNat_Int, Int.reduceEq, Int.reduceNe, Int.reduceLT, Int.reduceLE]
      exact this
    have hbad2 : t.bad ↔ (t.company < 0 ∨ (10 ^ a.cd : Nat) ≤ t.company ∨ t.ref < 0 ∨ (10 ^ a.rd : Nat) ≤ t.ref) := by rw [hbad]; omega
    clear hbad
    try simp (disch := first | omega | (simp only [PL]; omega)) only [PS, P1, P2, P3, P4, P5, P6, P7, P8, PA, PB, PC, Nat.reduceAdd, Nat.reduceSub, Nat.reduceMul, Nat.reduceLeDiff, Nat.reduceEqDiff, Nat.succ_ne_self, reduceCtorEq, Int.reduceToNat, Int.cast_ofNat_Int, Int.reduceEq, Int.reduceNe, Int.reduceLT, Int.reduceLE, B1]
    by_cases hc0 : t.company < 0
    · have hc1 : (t.company < 0) = True := by simpa using hc0
      try simp (disch := first | omega | (simp only [PL]; omega)) only [PS, P1, P2, P3, P4, P5, P6, P7, P8, PA, PB, PC, Nat.reduceAdd, Nat.reduceSub, Nat.reduceMul, Nat.reduceLeDiff, Nat.reduceEqDiff, Nat.succ_ne_self, reduceCtorEq, Int.reduceToNat, Int.cast_ofNat_Int, Int.reduceEq, Int.reduceNe, Int.reduceLT, Int.reduceLE, hc1]
      refine i_le (le_one (Heap.le.refl _)) ?_
      try simp (disch := first | omega | (simp only [PL]; omega)) only [PS, P1, P2, P3, P4, P5, P6, P7, P8, PA, PB, PC, Nat.reduceAdd, Nat.reduceSub, Nat.reduceMul, Nat.reduceLeDiff, Nat.reduceEqDiff, Nat.succ_ne_self, reduceCtorEq, Int.reduceToNat, Int.cast_ofNat_Int, Int.reduceEq, Int.reduceNe, Int.reduceLT, Int.reduceLE]
      refine i_le (le_two (Heap.le.refl _) (Heap.le.refl _)) ?_
      have := hK h2 hle2
      rw [fault_bad (hbad2.2 (by omega))] at this
      try simp (disch := first | omega | (simp only [PL]; omega)) only [PS, P1, P2, P3, P4, P5, P6, P7, P8, PA, PB, PC, Nat.reduceAdd, Nat.reduceSub, Nat.reduceMul, Nat.reduceLeDiff, Nat.reduceEqDiff, Nat.succ_ne_self, reduceCtorEq, Int.reduceToNat, Int.cast_ofNat_Int, Int.reduceEq, Int.reduceNe, Int.reduceLT, Int.reduceLE]
      exact this
    · have hc1 : (t.company < 0) = False := by simpa using hc0
      obtain ⟨nc, hnc⟩ : ∃ n : Nat, t.company = n := ⟨t.company.toNat, by omega⟩
      rw [hnc] at hc hc1 hbad2 ⊢
      have hdc := dec_le_iff (n := nc) (show 0 < a.cd by omega)
      have haa : ∀ h (k : IntKind), o2V h (.aadr 4 1) (.v (.pointer (some ⟨b, 0, none⟩))) (.v (.int k 1)) = some (.v (.pointer (some ((⟨b, 0, none⟩ : Addr).add 1)))) := fun h k => rfl
      have haa3 : ∀ h (k : IntKind), o2V h (.aadr 4 1) (.v (.pointer (some ⟨b, 0, none⟩))) (.v (.int k 3)) = some (.v (.pointer (some ((⟨b, 0, none⟩ : Addr).add 3)))) := fun h k => rfl
      try simp (disch := first | omega | (simp only [PL]; omega)) only [PS, P1, P2, P3, P4, P5, P6, P7, P8, PA, PB, PC, Nat.reduceAdd, Nat.reduceSub, Nat.reduceMul, Nat.reduceLeDiff, Nat.reduceEqDiff, Nat.succ_ne_self, reduceCtorEq, Int.reduceToNat, Int.cast_ofNat_Int, Int.reduceEq, Int.reduceNe, Int.reduceLT, Int.reduceLE, hc1, haa, B1]
      refine i_call H85 ⟨nc, rfl, by omega, fun h3 hle3 => ?_⟩
      have B3' := B3 h3 hle3
      refine i_le (le_one hle3) ?_
      by_cases hbad3 : 10 ^ a.cd ≤ nc ∨ t.ref < 0
      · have hcond : (((a.cd : Int) < ((dec nc).length : Int)) ∨ t.ref < 0) = True := by
          rw [eq_iff_iff]; simp only [iff_true]
          rcases hbad3 with h | h
          · exact .inl (by have := mt hdc.1 (by omega); omega)
          · exact .inr h
        try simp (disch := first | omega | (simp only [PL]; omega)) only [PS, P1, P2, P3, P4, P5, P6, P7, P8, PA, PB, PC, Nat.reduceAdd, Nat.reduceSub, Nat.reduceMul, Nat.reduceLeDiff, Nat.reduceEqDiff, Nat.succ_ne_self, reduceCtorEq, Int.reduceToNat, Int.cast_ofNat_Int, Int.reduceEq, Int.reduceNe, Int.reduceLT, Int.reduceLE, hcond]
        refine i_le (le_two (Heap.le.refl _) hle3) ?_
        have := hK h3 (hle2.trans hle3)
        rw [fault_bad (hbad2.2 (by omega))] at this
        try simp (disch := first | omega | (simp only [PL]; omega)) only [PS, P1, P2, P3, P4, P5, P6, P7, P8, PA, PB, PC, Nat.reduceAdd, Nat.reduceSub, Nat.reduceMul, Nat.reduceLeDiff, Nat.reduceEqDiff, Nat.succ_ne_self, reduceCtorEq, Int.reduceToNat, Int.cast_ofNat_Int, Int.reduceEq, Int.reduceNe, Int.reduceLT, Int.reduceLE]
        exact this
      · have hcond : (((a.cd : Int) < ((dec nc).length : Int)) ∨ t.ref < 0) = False := by
          rw [eq_iff_iff]; simp only [iff_false]
          rintro (h | h)
          · exact absurd (hdc.2 (by omega)) (by omega)
          · omega
        obtain ⟨nr, hnr⟩ : ∃ n : Nat, t.ref = n := ⟨t.ref.toNat, by omega⟩
        rw [hnr] at hr hcond hbad2 ⊢
        have hdr := dec_le_iff (n := nr) (show 0 < a.rd by omega)
        try simp (disch := first | omega | (simp only [PL]; omega)) only [PS, P1, P2, P3, P4, P5, P6, P7, P8, PA, PB, PC, Nat.reduceAdd, Nat.reduceSub, Nat.reduceMul, Nat.reduceLeDiff, Nat.reduceEqDiff, Nat.succ_ne_self, reduceCtorEq, Int.reduceToNat, Int.cast_ofNat_Int, Int.reduceEq, Int.reduceNe, Int.reduceLT, Int.reduceLE, hcond, haa3, B3']
        refine i_call H85 ⟨nr, rfl, by omega, fun h4 hle4 => ?_⟩
        refine i_le (le_two hle4 (hle3.trans hle4)) ?_
        try simp (disch := first | omega | (simp only [PL]; omega)) only [PS, P1, P2, P3, P4, P5, P6, P7, P8, PA, PB, PC, Nat.reduceAdd, Nat.reduceSub, Nat.reduceMul, Nat.reduceLeDiff, Nat.reduceEqDiff, Nat.succ_ne_self, reduceCtorEq, Int.reduceToNat, Int.cast_ofNat_Int, Int.reduceEq, Int.reduceNe, Int.reduceLT, Int.reduceLE]
        refine i_cond (fun c2 => ?_) (fun c2 => ?_)
        · have := hK h4 (hle2.trans (hle3.trans hle4))
          rw [fault_bad (hbad2.2 (by have := mt hdr.2 (by omega); omega))] at this
          try simp (disch := first | omega | (simp only [PL]; omega)) only [PS, P1, P2, P3, P4, P5, P6, P7, P8, PA, PB, PC, Nat.reduceAdd, Nat.reduceSub, Nat.reduceMul, Nat.reduceLeDiff, Nat.reduceEqDiff, Nat.succ_ne_self, reduceCtorEq, Int.reduceToNat, Int.cast_ofNat_Int, Int.reduceEq, Int.reduceNe, Int.reduceLT, Int.reduceLE]
          exact this
        · have := hK h4 (hle2.trans (hle3.trans hle4))
          rw [fault_ok (fun h => by have := hbad2.1 h; have := hdr.1 (by omega); omega)] at this
          try simp (disch := first | omega | (simp only [PL]; omega)) only [PS, P1, P2, P3, P4, P5, P6, P7, P8, PA, PB, PC, Nat.reduceAdd, Nat.reduceSub, Nat.reduceMul, Nat.reduceLeDiff, Nat.reduceEqDiff, Nat.succ_ne_self, reduceCtorEq, Int.reduceToNat, Int.cast_ofNat_Int, Int.reduceEq, Int.reduceNe, Int.reduceLT, Int.reduceLE]
          exact this
end Go.Cw
namespace Go.Cw
open Go

def S108 (N : Num) : Spec := fun args h K => ∃ t : Tg, args = [aggT t] ∧ ∀ h', Heap.le h h' → K (errV N (faultT t)) h'
theorem F108_ok {N : Num} {Γ : Ctx} [GoodC Γ] (H107 : Sat S107 (Γ 107)) (H117 : Sat S117 (Γ 117)) : Sat (S108 N) (SF N Γ F108) := by
  rintro _ h K ⟨t, rfl, hK⟩
  have hK1 : t.bad → ∀ h', Heap.le h h' → K (.iface (N.tid 111) (.int .i64 1)) h' := fun hb h' hl => by have := hK h' hl; rw [fault_bad hb, errV_succ] at this; exact this
  have hK0 : ¬ t.bad → ∀ h', Heap.le h h' → K .nilIface h' := fun hb h' hl => by have := hK h' hl; rw [fault_ok hb] at this; exact this
  clear hK
  refine i_fun rfl ?_
  simp only [F108, env0, List.map, List.length, List.replicate, List.cons_append, List.nil_append, Nat.reduceSub, Nat.reduceAdd, aggT]
  have hsome := fun a => Tg.bad_some (t := t) (a := a)
  try simp (disch := first | omega | (simp only [PL]; omega)) only [PS, P1, P2, P3, P4, P5, P6, P7, P8, PA, PB, PC, Nat.reduceAdd, Nat.reduceSub, Nat.reduceMul, Nat.reduceLeDiff, Nat.reduceEqDiff, Nat.succ_ne_self, reduceCtorEq, Int.reduceToNat, Int.cast_ofNat_Int, Int.reduceEq, Int.reduceNe, Int.reduceLT, Int.reduceLE]
  refine i_cond (fun c1 => ?_) (fun c1 => ?_)
  · try simp (disch := first | omega | (simp only [PL]; omega)) only [PS, P1, P2, P3, P4, P5, P6, P7, P8, PA, PB, PC, Nat.reduceAdd, Nat.reduceSub, Nat.reduceMul, Nat.reduceLeDiff, Nat.reduceEqDiff, Nat.succ_ne_self, reduceCtorEq, Int.reduceToNat, Int.cast_ofNat_Int, Int.reduceEq, Int.reduceNe, Int.reduceLT, Int.reduceLE]
    refine hK1 ?_ h (Heap.le.refl h)
    cases hp : partsOf t.part with
    | none => exact Tg.bad_none hp
    | some a => exact (hsome a hp).2 (by omega)
  try simp (disch := first | omega | (simp only [PL]; omega)) only [PS, P1, P2, P3, P4, P5, P6, P7, P8, PA, PB, PC, Nat.reduceAdd, Nat.reduceSub, Nat.reduceMul, Nat.reduceLeDiff, Nat.reduceEqDiff, Nat.succ_ne_self, reduceCtorEq, Int.reduceToNat, Int.cast_ofNat_Int, Int.reduceEq, Int.reduceNe, Int.reduceLT, Int.reduceLE]
  refine i_call H107 ⟨t.part, rfl, fun h1 hle1 => ?_⟩
  cases hp : partsOf t.part with
  | none =>
    simp only [paV, hp, Option.elim]
    try simp (disch := first | omega | (simp only [PL]; omega)) only [PS, P1, P2, P3, P4, P5, P6, P7, P8, PA, PB, PC, Nat.reduceAdd, Nat.reduceSub, Nat.reduceMul, Nat.reduceLeDiff, Nat.reduceEqDiff, Nat.succ_ne_self, reduceCtorEq, Int.reduceToNat, Int.cast_ofNat_Int, Int.reduceEq, Int.reduceNe, Int.reduceLT, Int.reduceLE]
    refine i_le (le_one (Heap.le.refl _)) ?_
    try simp (disch := first | omega | (simp only [PL]; omega)) only [PS, P1, P2, P3, P4, P5, P6, P7, P8, PA, PB, PC, Nat.reduceAdd, Nat.reduceSub, Nat.reduceMul, Nat.reduceLeDiff, Nat.reduceEqDiff, Nat.succ_ne_self, reduceCtorEq, Int.reduceToNat, Int.cast_ofNat_Int, Int.reduceEq, Int.reduceNe, Int.reduceLT, Int.reduceLE]
    refine i_le (le_two (Heap.le.refl _) (Heap.le.refl _)) ?_
    try simp (disch := first | omega | (simp only [PL]; omega)) only [PS, P1, P2, P3, P4, P5, P6, P7, P8, PA, PB, PC, Nat.reduceAdd, Nat.reduceSub, Nat.reduceMul, Nat.reduceLeDiff, Nat.reduceEqDiff, Nat.succ_ne_self, reduceCtorEq, Int.reduceToNat, Int.cast_ofNat_Int, Int.reduceEq, Int.reduceNe, Int.reduceLT, Int.reduceLE]
    exact hK1 (Tg.bad_none hp) h1 hle1
  | some a =>
    have hbad := hsome a hp
    have hpa := partsOf_some hp
    have hp18 : a.cd ≤ 18 ∧ a.rd ≤ 18 := by omega
    simp only [paV, hp, Option.elim, Pa.enc]
    by_cases hc0 : t.company < 0
    · have hc1 : (t.company < 0) = True := by simpa using hc0
      try simp (disch := first | omega | (simp only [PL]; omega)) only [PS, P1, P2, P3, P4, P5, P6, P7, P8, PA, PB, PC, Nat.reduceAdd, Nat.reduceSub, Nat.reduceMul, Nat.reduceLeDiff, Nat.reduceEqDiff, Nat.succ_ne_self, reduceCtorEq, Int.reduceToNat, Int.cast_ofNat_Int, Int.reduceEq, Int.reduceNe, Int.reduceLT, Int.reduceLE, hc1]
      refine i_le (le_one (Heap.le.refl _)) ?_
      try simp (disch := first | omega | (simp only [PL]; omega)) only [PS, P1, P2, P3, P4, P5, P6, P7, P8, PA, PB, PC, Nat.reduceAdd, Nat.reduceSub, Nat.reduceMul, Nat.reduceLeDiff, Nat.reduceEqDiff, Nat.succ_ne_self, reduceCtorEq, Int.reduceToNat, Int.cast_ofNat_Int, Int.reduceEq, Int.reduceNe, Int.reduceLT, Int.reduceLE]
      refine i_le (le_two (Heap.le.refl _) (Heap.le.refl _)) ?_
      try simp (disch := first | omega | (simp only [PL]; omega)) only [PS, P1, P2, P3, P4, P5, P6, P7, P8, PA, PB, PC, Nat.reduceAdd, Nat.reduceSub, Nat.reduceMul, Nat.reduceLeDiff, Nat.reduceEqDiff, Nat.succ_ne_self, reduceCtorEq, Int.reduceToNat, Int.cast_ofNat_Int, Int.reduceEq, Int.reduceNe, Int.reduceLT, Int.reduceLE]
      exact hK1 (hbad.2 (by omega)) h1 hle1
    · have hc1 : (t.company < 0) = False := by simpa using hc0
      try simp (disch := first | omega | (simp only [PL]; omega)) only [PS, P1, P2, P3, P4, P5, P6, P7, P8, PA, PB, PC, Nat.reduceAdd, Nat.reduceSub, Nat.reduceMul, Nat.reduceLeDiff, Nat.reduceEqDiff, Nat.succ_ne_self, reduceCtorEq, Int.reduceToNat, Int.cast_ofNat_Int, Int.reduceEq, Int.reduceNe, Int.reduceLT, Int.reduceLE, hc1]
      refine i_call H117 ⟨a.cd, rfl, hp18.1, ?_⟩
      refine i_le (le_one (Heap.le.refl _)) ?_
      by_cases hb3 : ((10 ^ a.cd : Nat) : Int) ≤ t.company ∨ t.ref < 0
      · have hcond : (((10 ^ a.cd : Nat) : Int) ≤ t.company ∨ t.ref < 0) = True := by simpa using hb3
        try simp (disch := first | omega | (simp only [PL]; omega)) only [PS, P1, P2, P3, P4, P5, P6, P7, P8, PA, PB, PC, Nat.reduceAdd, Nat.reduceSub, Nat.reduceMul, Nat.reduceLeDiff, Nat.reduceEqDiff, Nat.succ_ne_self, reduceCtorEq, Int.reduceToNat, Int.cast_ofNat_Int, Int.reduceEq, Int.reduceNe, Int.reduceLT, Int.reduceLE, hcond]
        refine i_le (le_two (Heap.le.refl _) (Heap.le.refl _)) ?_
        try simp (disch := first | omega | (simp only [PL]; omega)) only [PS, P1, P2, P3, P4, P5, P6, P7, P8, PA, PB, PC, Nat.reduceAdd, Nat.reduceSub, Nat.reduceMul, Nat.reduceLeDiff, Nat.reduceEqDiff, Nat.succ_ne_self, reduceCtorEq, Int.reduceToNat, Int.cast_ofNat_Int, Int.reduceEq, Int.reduceNe, Int.reduceLT, Int.reduceLE]
        exact hK1 (hbad.2 (by omega)) h1 hle1
      · have hcond : (((10 ^ a.cd : Nat) : Int) ≤ t.company ∨ t.ref < 0) = False := by simpa using hb3
        try simp (disch := first | omega | (simp only [PL]; omega)) only [PS, P1, P2, P3, P4, P5, P6, P7, P8, PA, PB, PC, Nat.reduceAdd, Nat.reduceSub, Nat.reduceMul, Nat.reduceLeDiff, Nat.reduceEqDiff, Nat.succ_ne_self, reduceCtorEq, Int.reduceToNat, Int.cast_ofNat_Int, Int.reduceEq, Int.reduceNe, Int.reduceLT, Int.reduceLE, hcond]
        refine i_call H117 ⟨a.rd, rfl, hp18.2, ?_⟩
        refine i_le (le_two (Heap.le.refl _) (Heap.le.refl _)) ?_
        try simp (disch := first | omega | (simp only [PL]; omega)) only [PS, P1, P2, P3, P4, P5, P6, P7, P8, PA, PB, PC, Nat.reduceAdd, Nat.reduceSub, Nat.reduceMul, Nat.reduceLeDiff, Nat.reduceEqDiff, Nat.succ_ne_self, reduceCtorEq, Int.reduceToNat, Int.cast_ofNat_Int, Int.reduceEq, Int.reduceNe, Int.reduceLT, Int.reduceLE]
        refine i_cond (fun c2 => ?_) (fun c2 => ?_)
        · try simp (disch := first | omega | (simp only [PL]; omega)) only [PS, P1, P2, P3, P4, P5, P6, P7, P8, PA, PB, PC, Nat.reduceAdd, Nat.reduceSub, Nat.reduceMul, Nat.reduceLeDiff, Nat.reduceEqDiff, Nat.succ_ne_self, reduceCtorEq, Int.reduceToNat, Int.cast_ofNat_Int, Int.reduceEq, Int.reduceNe, Int.reduceLT, Int.reduceLE]
          exact hK1 (hbad.2 (by omega)) h1 hle1
        · try simp (disch := first | omega | (simp only [PL]; omega)) only [PS, P1, P2, P3, P4, P5, P6, P7, P8, PA, PB, PC, Nat.reduceAdd, Nat.reduceSub, Nat.reduceMul, Nat.reduceLeDiff, Nat.reduceEqDiff, Nat.succ_ne_self, reduceCtorEq, Int.reduceToNat, Int.cast_ofNat_Int, Int.reduceEq, Int.reduceNe, Int.reduceLT, Int.reduceLE]
          exact hK0 (fun h => by have := hbad.1 h; omega) h1 hle1
end Go.Cw
namespace Go.Cw
open Go

theorem shr_nat (k k' : IntKind) (x s : Nat) (hs : s ≤ k.bits) : binV .shr (.int k (x : Int)) (.int k' (s : Int)) = some (.int k ((x / 2 ^ s : Nat) : Int)) := by
  simp only [binV, shiftV]
  rw [if_neg (by omega), Int.toNat_natCast, show Nat.min s k.bits = s from Nat.min_eq_left hs]
  have h1 : (x : Int).fdiv (2 ^ s) = ((x / 2 ^ s : Nat) : Int) := by
    rw [Int.fdiv_eq_ediv_of_nonneg _ (Int.le_of_lt (Int.pow_pos (by omega)))]
    simp
  rw [h1]
theorem wrap_u64 (n : Nat) (h : n < 2 ^ 64) : IntKind.u64.wrap (n : Int) = (n : Int) := by
  simp only [IntKind.wrap, IntKind.bits, IntKind.signed]
  simp; omega
theorem shl_nat (k' : IntKind) (x s : Nat) (hs : s ≤ 64) (hx : x * 2 ^ s < 2 ^ 64) : binV .shl (.int .u64 (x : Int)) (.int k' (s : Int)) = some (.int .u64 ((x * 2 ^ s : Nat) : Int)) := by
  simp only [binV, shiftV]
  rw [if_neg (by omega), Int.toNat_natCast, show Nat.min s IntKind.u64.bits = s from Nat.min_eq_left hs]
  have h1 : (x : Int) * 2 ^ s = ((x * 2 ^ s : Nat) : Int) := by simp
  rw [h1, wrap_u64 _ hx]
theorem bits_nat (n x : Nat) (h : x < 2 ^ n) : (BitVec.ofInt n (x : Int)).toNat = x := by
  simp [Nat.mod_eq_of_lt h]
theorem and_u64 (x y : Nat) (hx : x < 2 ^ 64) (hy : y < 2 ^ 64) : binV .and (.int .u64 (x : Int)) (.int .u64 (y : Int)) = some (.int .u64 ((x &&& y : Nat) : Int)) := by
  have hb : (BitVec.ofInt IntKind.u64.bits (x : Int) &&& BitVec.ofInt IntKind.u64.bits (y : Int)).toNat = x &&& y := by rw [BitVec.toNat_and, bits_nat IntKind.u64.bits x hx, bits_nat IntKind.u64.bits y hy]
  simp only [binV, intV, if_true]
  rw [hb, wrap_u64 _ (Nat.lt_of_le_of_lt Nat.and_le_left hx)]
theorem or_u64 (x y : Nat) (hx : x < 2 ^ 64) (hy : y < 2 ^ 64) : binV .or (.int .u64 (x : Int)) (.int .u64 (y : Int)) = some (.int .u64 ((x ||| y : Nat) : Int)) := by
  have hb : (BitVec.ofInt IntKind.u64.bits (x : Int) ||| BitVec.ofInt IntKind.u64.bits (y : Int)).toNat = x ||| y := by rw [BitVec.toNat_or, bits_nat IntKind.u64.bits x hx, bits_nat IntKind.u64.bits y hy]
  simp only [binV, intV, if_true]
  rw [hb, wrap_u64 _ (Nat.or_lt_two_pow hx hy)]
theorem and_u8 (x y : Nat) (hx : x < 2 ^ 8) (hy : y < 2 ^ 8) : binV .and (.int .u8 (x : Int)) (.int .u8 (y : Int)) = some (.int .u8 ((x &&& y : Nat) : Int)) := by
  have hb : (BitVec.ofInt IntKind.u8.bits (x : Int) &&& BitVec.ofInt IntKind.u8.bits (y : Int)).toNat = x &&& y := by rw [BitVec.toNat_and, bits_nat IntKind.u8.bits x hx, bits_nat IntKind.u8.bits y hy]
  simp only [binV, intV, if_true]
  have : x &&& y < 2 ^ 8 := Nat.lt_of_le_of_lt Nat.and_le_left hx
  rw [hb, w8', show ((x &&& y : Nat) : Int) % 256 = ((x &&& y : Nat) : Int) from by omega]

/-- what else lies in memory stays, but for one block -/
def but (b : Nat) (h h' : Heap) : Prop := ∀ x, x ≠ b → h' x = h x
theorem but.le {b : Nat} {h0 h h' : Heap} (hl : Heap.le h0 h) (hn : h0 b = none) (hb : but b h h') : Heap.le h0 h' := by
  intro x o hx
  have : x ≠ b := by intro e; subst e; rw [hn] at hx; cases hx
  rw [hb x this]; exact hl x o hx
theorem but.cell {b : Nat} {h h' : Heap} (hb : but b h h') {a : Addr} (ha : a.block ≠ b) : h'.cell a = h.cell a := by
  simp only [Heap.cell, Heap.cells, hb _ ha]

def S127 : Spec := fun args h K => ∃ bb ba b, ∃ at_ many : Nat, args = [.int .i64 many, .pointer (some ⟨bb, 0, none⟩), .pointer (some ⟨ba, 0, none⟩)] ∧ h.cell ⟨bb, 0, none⟩ = some (.string (str b)) ∧ objAt h ⟨ba, 0, none⟩ [.int .i64 at_] ∧ bb ≠ ba ∧ b.length = 8 ∧ at_ + many ≤ 64 ∧ many ≤ 30 ∧
  ∀ h', but ba h h' → objAt h' ⟨ba, 0, none⟩ [.int .i64 (at_ + many : Nat)] → K (.int .i64 (rdBits b at_ many : Nat)) h'
theorem rdBits_lt (b : List UInt8) (at_ : Nat) : ∀ k, rdBits b at_ k < 2 ^ k := by
  intro k
  induction k with
  | zero => simp [rdBits]
  | succ k ih => rw [rdBits, Nat.pow_succ]; have : bitAt b (at_ + k) < 2 := Nat.mod_lt _ (by omega); omega
theorem F127_ok {N : Num} {Γ : Ctx} [GoodC Γ] : Sat S127 (SF N Γ F127) := by
  rintro _ h K ⟨bb, ba, b, at_, many, rfl, hb, hat, hne, hlen, hm, hm30, hK⟩
  refine i_fun rfl ?_
  simp only [F127, env0, List.map, List.length, List.replicate, List.cons_append, List.nil_append, Nat.reduceSub, Nat.reduceAdd]
  try simp (disch := first | omega | (simp only [PL]; omega)) only [PS, P1, P2, P3, P4, P5, P6, P7, P8, PA, PB, PC, Nat.reduceAdd, Nat.reduceSub, Nat.reduceMul, Nat.reduceLeDiff, Nat.reduceEqDiff, Nat.succ_ne_self, reduceCtorEq, Int.reduceToNat, Int.cast_ofNat_Int, Int.reduceEq, Int.reduceNe, Int.reduceLT, Int.reduceLE]
  refine i_loop (fun i : Nat => [some (.int .i64 many), some (.pointer (some ⟨bb, 0, none⟩)), some (.pointer (some ⟨ba, 0, none⟩)), some (.int .i64 0), some (.int .i64 (rdBits b at_ i : Nat)), some (.int .i64 i), none])
    (fun i h1 => i ≤ many ∧ but ba h h1 ∧ objAt h1 ⟨ba, 0, none⟩ [.int .i64 (at_ + i : Nat)]) (fun i => many - i) 0 (by try simp only [Pe, and_true, true_and, and_self]; exact ⟨rfl, rfl⟩) ⟨by omega, fun _ _ => rfl, hat⟩ ?_
  rintro i h1 ⟨hi, hbut, ho⟩
  have hb1 : h1.cell ⟨bb, 0, none⟩ = some (.string (str b)) := (hbut.cell hne).trans hb
  have ha1 : h1.cell ⟨ba, 0, none⟩ = some (.int .i64 (at_ + i : Nat)) := ho.rules.2.1 (by simp)
  try simp (disch := first | omega | (simp only [PL]; omega)) only [PS, P1, P2, P3, P4, P5, P6, P7, P8, PA, PB, PC, Nat.reduceAdd, Nat.reduceSub, Nat.reduceMul, Nat.reduceLeDiff, Nat.reduceEqDiff, Nat.succ_ne_self, reduceCtorEq, Int.reduceToNat, Int.cast_ofNat_Int, Int.reduceEq, Int.reduceNe, Int.reduceLT, Int.reduceLE]
  refine i_cond (fun c1 => ?_) (fun c1 => ?_)
  rotate_left
  · have : i = many := by omega
    subst this
    try simp (disch := first | omega | (simp only [PL]; omega)) only [PS, P1, P2, P3, P4, P5, P6, P7, P8, PA, PB, PC, Nat.reduceAdd, Nat.reduceSub, Nat.reduceMul, Nat.reduceLeDiff, Nat.reduceEqDiff, Nat.succ_ne_self, reduceCtorEq, Int.reduceToNat, Int.cast_ofNat_Int, Int.reduceEq, Int.reduceNe, Int.reduceLT, Int.reduceLE]
    exact hK h1 hbut ho
  have hq : IntKind.i64.wrap (((at_ + i : Nat) : Int).tdiv 8) = (((at_ + i) / 8 : Nat) : Int) := by
    rw [show ((at_ + i : Nat) : Int).tdiv 8 = (((at_ + i) / 8 : Nat) : Int) from by rw [Int.tdiv_eq_ediv_of_nonneg (by omega)]; omega, w64 (by omega) (by omega)]
  have hr : IntKind.i64.wrap (((at_ + i : Nat) : Int).tmod 8) = (((at_ + i) % 8 : Nat) : Int) := by
    rw [show ((at_ + i : Nat) : Int).tmod 8 = (((at_ + i) % 8 : Nat) : Int) from by rw [Int.tmod_eq_emod_of_nonneg (by omega)]; omega, w64 (by omega) (by omega)]
  have hr' : ((at_ + i : Nat) : Int).tmod 8 = (((at_ + i) % 8 : Nat) : Int) := by rw [Int.tmod_eq_emod_of_nonneg (by omega)]; omega
  have hw7 : IntKind.i64.wrap (7 - (((at_ + i) % 8 : Nat) : Int)) = ((7 - (at_ + i) % 8 : Nat) : Int) := by rw [w64 (by omega) (by omega)]; omega
  have hbyte := (b.getD ((at_ + i) / 8) 0).toNat_lt
  have hsh := shr_nat .u8 .i64 (b.getD ((at_ + i) / 8) 0).toNat (7 - (at_ + i) % 8) (by simp [IntKind.bits]; omega)
  have hdl : (b.getD ((at_ + i) / 8) 0).toNat / 2 ^ (7 - (at_ + i) % 8) < 256 := Nat.lt_of_le_of_lt (Nat.div_le_self _ _) (by omega)
  have han := and_u8 ((b.getD ((at_ + i) / 8) 0).toNat / 2 ^ (7 - (at_ + i) % 8)) 1 (by omega) (by omega)
  rw [Nat.and_one_is_mod] at han
  have hand : binV .and (.int .u8 (((b.getD ((at_ + i) / 8) 0).toNat / 2 ^ (7 - (at_ + i) % 8) : Nat) : Int)) (.int .u8 1) = some (.int .u8 ((bitAt b (at_ + i) : Nat) : Int)) := han
  have hbl : bitAt b (at_ + i) < 2 := Nat.mod_lt _ (by omega)
  have hrl : rdBits b at_ i < 1073741824 := Nat.lt_of_lt_of_le (rdBits_lt b at_ i) (Nat.pow_le_pow_right (n := 2) (by omega) (show i ≤ 30 by omega))
  try simp (disch := first | omega | (simp only [PL]; omega)) only [PS, P1, P2, P3, P4, P5, P6, P7, P8, PA, PB, PC, Nat.reduceAdd, Nat.reduceSub, Nat.reduceMul, Nat.reduceLeDiff, Nat.reduceEqDiff, Nat.succ_ne_self, reduceCtorEq, Int.reduceToNat, Int.cast_ofNat_Int, Int.reduceEq, Int.reduceNe, Int.reduceLT, Int.reduceLE, hb1, ha1, hq, hr, hr', hw7, hsh, hand]
  refine i_st ho 0 1 rfl rfl (by omega) (by simp) fun o hob _ => ?_
  have hob2 : objAt (h1.set ba o) ⟨ba, 0, none⟩ [.int .i64 (at_ + i + 1 : Nat)] := hob h1 rfl
  try simp (disch := first | omega | (simp only [PL]; omega)) only [PS, P1, P2, P3, P4, P5, P6, P7, P8, PA, PB, PC, Nat.reduceAdd, Nat.reduceSub, Nat.reduceMul, Nat.reduceLeDiff, Nat.reduceEqDiff, Nat.succ_ne_self, reduceCtorEq, Int.reduceToNat, Int.cast_ofNat_Int, Int.reduceEq, Int.reduceNe, Int.reduceLT, Int.reduceLE]
  refine k_loop (i + 1) (by omega) (by try simp only [Pe, and_true, true_and, and_self]; rfl) ⟨by omega, fun x hx => ?_, hob2⟩
  rw [Heap.set_ne hx]; exact hbut x hx
end Go.Cw
