/- Part 2 of the proof of TopTrack: a small language for the program's functions, its soundness, and what the functions do. No conditions beyond the theorems' own. -/
import Derived.Test.YthhepmakjimhlaaCw1
import Derived.Below
import Derived.Carry
import Derived.Deep.Slices
import Derived.OpenShut
import Derived.ProofKit
import Derived.ShutString
import Derived.WalkKit
import GoSem.ClaimJoined
set_option linter.unusedSimpArgs false
set_option linter.unusedVariables false
/- Maps, and what a step leaves as it was. -/
namespace Go.Cw
open Go

def disj (f g : Heap) : Prop := ∀ b, f b ≠ none → g b = none
theorem disj.symm {f g : Heap} (h : disj f g) : disj g f := by
  intro b hb
  cases hf : f b with
  | none => rfl
  | some o => exact absurd (h b (by rw [hf]; simp)) hb

/-- from what is owned in a heap to what is owned behind a step: all else stays -/
structure Step (g h g' h' : Heap) : Prop where
  le : Heap.le g' h'
  frame : ∀ b o, h b = some o → g b = none → h' b = some o
  fresh : ∀ b, h b ≠ none → g b = none → g' b = none
theorem Step.refl {g h : Heap} (hl : Heap.le g h) : Step g h g h := ⟨hl, fun _ _ h _ => h, fun _ _ h => h⟩
theorem Step.trans {g h g' h' g'' h'' : Heap} (a : Step g h g' h') (b : Step g' h' g'' h'') : Step g h g'' h'' := by
  refine ⟨b.le, fun x o h1 h2 => ?_, fun x h1 h2 => ?_⟩
  · exact b.frame x o (a.frame x o h1 h2) (a.fresh x (by rw [h1]; simp) h2)
  · refine b.fresh x ?_ (a.fresh x h1 h2)
    cases hx : h x with
    | none => exact absurd hx h1
    | some o => rw [a.frame x o hx h2]; simp
/-- what is not owned stays, and stays apart -/
theorem Step.keep {g h g' h' f : Heap} (a : Step g h g' h') (hf : Heap.le f h) (hd : disj f g) : Heap.le f h' ∧ disj f g' := by
  refine ⟨fun b o hb => a.frame b o (hf b o hb) (hd b (by rw [hb]; simp)), fun b hb => ?_⟩
  cases hfb : f b with
  | none => exact absurd hfb hb
  | some o => exact a.fresh b (by rw [hf b o hfb]; simp) (hd b hb)
theorem Step.alloc {g h h' : Heap} (hg : Heap.le g h) (hl : Heap.le h h') : Step g h (join g (fr h h')) h' := by
  refine ⟨join_le (hg.trans hl) (fr_le _ _), fun b o h1 _ => hl b o h1, fun b h1 h2 => ?_⟩
  cases hb : h b with
  | none => exact absurd hb h1
  | some o => exact join_none h2 (fr_none hb)
theorem Step.more {g h h' : Heap} (hg : Heap.le g h) (hl : Heap.le h h') : Step g h g h' := ⟨hg.trans hl, fun b o h1 _ => hl b o h1, fun _ _ h => h⟩
theorem Step.set {g h : Heap} (hg : Heap.le g h) {b : Nat} (hb : g b ≠ none) (o : Obj) : Step g h (g.set b o) (h.set b o) := by
  refine ⟨?_, fun x y h1 h2 => ?_, fun x h1 h2 => ?_⟩
  · intro x y hx
    by_cases e : x = b
    · subst e; rw [Heap.set_eq] at hx ⊢; exact hx
    · rw [Heap.set_ne e] at hx ⊢; exact hg x y hx
  · have e : x ≠ b := by intro e; subst e; exact hb h2
    rw [Heap.set_ne e]; exact h1
  · have e : x ≠ b := by intro e; subst e; exact hb h2
    rw [Heap.set_ne e]; exact h2
/-- a step of a part -/
theorem Step.part {g h g' h' f : Heap} (a : Step g h g' h') (hf : Heap.le f h) (hd : disj f g) : Step (join f g) h (join f g') h' := by
  obtain ⟨k1, k2⟩ := a.keep hf hd
  refine ⟨join_le k1 a.le, fun b o h1 h2 => ?_, fun b h1 h2 => ?_⟩
  · have hg : g b = none := by
      simp only [join] at h2
      cases hfb : f b with
      | none => rw [hfb] at h2; simpa using h2
      | some x => rw [hfb] at h2; simp at h2
    exact a.frame b o h1 hg
  · have hfb : f b = none := by
      cases hfb : f b with
      | none => rfl
      | some x => simp only [join, hfb] at h2; simp at h2
    have hg : g b = none := by simp only [join, hfb] at h2; simpa using h2
    exact join_none hfb (a.fresh b h1 hg)

/-! ### maps -/
section
variable {κ ν : Type} [DecidableEq κ]

class KeyOk (kb : Bk) (ek : κ → Value) : Prop where
  eq : ∀ a b, cellEq kb (ek a) (ek b) = some (decide (a = b))

def encKS (s : List UInt8) : Value := .string (str s)
def encKI (n : Int) : Value := .int .i64 n
instance : KeyOk .str encKS where
  eq := by intro a b; simp [cellEq, encKS, str_beq]
instance : KeyOk .int encKI where
  eq := by
    intro a b
    simp only [cellEq, encKI, if_true]
    rfl

def lookI : List (κ × ν) → κ → Nat → Option (Nat × ν)
  | [], _, _ => none
  | p :: r, k, i => if k = p.1 then some (i, p.2) else lookI r k (i + 1)
def look (kv : List (κ × ν)) (k : κ) : Option ν := (lookI kv k 0).map (·.2)
def upd : List (κ × ν) → κ → ν → List (κ × ν)
  | [], k, v => [(k, v)]
  | p :: r, k, v => if k = p.1 then (k, v) :: r else p :: upd r k v

theorem lookI_shift (kv : List (κ × ν)) (k : κ) : ∀ (i j : Nat), lookI kv k (i + j) = (lookI kv k i).map fun p => (p.1 + j, p.2) := by
  induction kv with
  | nil => intro i j; rfl
  | cons p r ih =>
    intro i j
    simp only [lookI]
    split
    · rfl
    · rw [show i + j + 1 = (i + 1) + j by omega, ih]
theorem look_nil (k : κ) : look ([] : List (κ × ν)) k = none := rfl
theorem look_cons (p : κ × ν) (r : List (κ × ν)) (k : κ) : look (p :: r) k = if k = p.1 then some p.2 else look r k := by
  unfold look
  simp only [lookI]
  split
  · rfl
  · have := lookI_shift r k 0 1
    rw [this]; cases lookI r k 0 <;> rfl
theorem look_upd (kv : List (κ × ν)) (k k' : κ) (v : ν) : look (upd kv k v) k' = if k' = k then some v else look kv k' := by
  induction kv with
  | nil => simp only [upd, look_cons, look_nil]
  | cons p r ih =>
    simp only [upd]
    split
    · rename_i e; subst e
      simp only [look_cons]
      split
      · rfl
      · rfl
    · rename_i e
      simp only [look_cons, ih]
      by_cases e1 : k' = p.1
      · have e2 : k' ≠ k := by intro e3; exact e (e3.symm.trans e1)
        rw [if_pos e1, if_neg e2, if_pos e1]
      · rw [if_neg e1, if_neg e1]
theorem look_mem {kv : List (κ × ν)} {k : κ} {v : ν} (h : look kv k = some v) : (k, v) ∈ kv := by
  induction kv with
  | nil => simp [look_nil] at h
  | cons p r ih =>
    rw [look_cons] at h
    split at h
    · rename_i e; cases h; subst e; simp
    · exact List.mem_cons_of_mem _ (ih h)
theorem look_none {kv : List (κ × ν)} {k : κ} (h : look kv k = none) : k ∉ kv.map (·.1) := by
  induction kv with
  | nil => simp
  | cons p r ih =>
    rw [look_cons] at h
    split at h
    · cases h
    · rename_i e
      have := ih h
      simp only [List.map_cons, List.mem_cons, not_or]
      exact ⟨e, this⟩
theorem look_of_mem {kv : List (κ × ν)} (hn : (kv.map (·.1)).Nodup) {k : κ} {v : ν} (h : (k, v) ∈ kv) : look kv k = some v := by
  induction kv with
  | nil => simp at h
  | cons p r ih =>
    rw [look_cons]
    simp only [List.map_cons, List.nodup_cons] at hn
    simp only [List.mem_cons] at h
    rcases h with rfl | h
    · simp
    · have : k ≠ p.1 := by rintro rfl; exact hn.1 (List.mem_map.2 ⟨_, h, rfl⟩)
      rw [if_neg this]; exact ih hn.2 h
theorem upd_keys (kv : List (κ × ν)) (k : κ) (v : ν) : (upd kv k v).map (·.1) = if k ∈ kv.map (·.1) then kv.map (·.1) else kv.map (·.1) ++ [k] := by
  induction kv with
  | nil => simp [upd]
  | cons p r ih =>
    simp only [upd]
    split
    · rename_i e; subst e; simp
    · rename_i e
      simp only [List.map_cons, ih, List.mem_cons]
      by_cases h : k ∈ r.map (·.1)
      · simp [h]
      · simp [h, e]
theorem upd_nodup {kv : List (κ × ν)} (hn : (kv.map (·.1)).Nodup) (k : κ) (v : ν) : ((upd kv k v).map (·.1)).Nodup := by
  rw [upd_keys]
  split
  · exact hn
  · rename_i h
    rw [List.nodup_append]
    refine ⟨hn, by simp, ?_⟩
    intro a ha b hb e
    simp at hb; subst hb; subst e; exact h ha

def mkE (ek : κ → Value) (ev : ν → Value) (p : κ × ν) (b : Nat) : MapEntry := { key := ek p.1, val := ev p.2, born := b }
/-- a map in memory -/
def MapB (ek : κ → Value) (ev : ν → Value) (g : Heap) (m : Nat) (kv : List (κ × ν)) (bs : List Nat) (ck : Nat) : Prop :=
  ∃ es : Array MapEntry, g m = some (.map es ck) ∧ es.toList = List.zipWith (mkE ek ev) kv bs ∧ bs.length = kv.length ∧ bs.Nodup ∧ (∀ b ∈ bs, b < ck) ∧ (kv.map (·.1)).Nodup
omit [DecidableEq κ] in
theorem MapB.le {ek : κ → Value} {ev : ν → Value} {g h : Heap} {m : Nat} {kv : List (κ × ν)} {bs : List Nat} {ck : Nat} (hm : MapB ek ev g m kv bs ck) (hl : Heap.le g h) : MapB ek ev h m kv bs ck := by
  obtain ⟨es, h1, h2⟩ := hm; exact ⟨es, hl _ _ h1, h2⟩

theorem findE_eq {kb : Bk} {ek : κ → Value} [hk : KeyOk kb ek] {ev : ν → Value} (k : κ) : ∀ (kv : List (κ × ν)) (bs : List Nat) (i : Nat), bs.length = kv.length →
    findE kb (ek k) (List.zipWith (mkE ek ev) kv bs) i = some ((lookI kv k i).map fun p => (p.1, ev p.2)) := by
  intro kv
  induction kv with
  | nil => intro bs i h; cases bs <;> rfl
  | cons p r ih =>
    intro bs i h
    cases bs with
    | nil => simp at h
    | cons b bs =>
      simp only [List.zipWith_cons_cons, findE, mkE, hk.eq, lookI]
      by_cases e : k = p.1
      · simp [e]
      · simp only [e, decide_false, if_false]
        exact ih bs (i + 1) (by simpa using h)

theorem MapB.rules (kb : Bk) {ek : κ → Value} [KeyOk kb ek] {ev : ν → Value} {h : Heap} {m : Nat} {kv : List (κ × ν)} {bs : List Nat} {ck : Nat} (hm : MapB ek ev h m kv bs ck) :
    (∀ z k, o2V h (.lkp kb z) (.v (.map (some m))) (.v (ek k)) = some (.v (match look kv k with | some x => ev x | none => z))) ∧
    (∀ z k, o2V h (.lkpo kb z) (.v (.map (some m))) (.v (ek k)) = some (.v (match look kv k with | some x => .tuple #[ev x, .bool true] | none => .tuple #[z, .bool false]))) ∧
    (∀ N env, o1V N env h .mlen (.v (.map (some m))) = some (.v (.int .i64 kv.length))) := by
  obtain ⟨es, h1, h2, h3, h4, h5, h6⟩ := hm
  have he : entriesOf h (.map (some m)) = some (List.zipWith (mkE ek ev) kv bs) := by simp [entriesOf, h1, h2]
  refine ⟨fun z k => ?_, fun z k => ?_, fun N env => ?_⟩
  · simp only [o2V, he, Option.bind_some, findE_eq k kv bs 0 h3, Option.map_some, look]
    cases lookI kv k 0 <;> rfl
  · simp only [o2V, he, Option.bind_some, findE_eq k kv bs 0 h3, Option.map_some, look]
    cases lookI kv k 0 <;> rfl
  · simp only [o1V, he, Option.map_some, List.length_zipWith, h3, Nat.min_self]

theorem lookI_spec : ∀ (kv : List (κ × ν)) (k : κ) (i j : Nat) (v : ν), lookI kv k i = some (j, v) → i ≤ j ∧ kv[j - i]? = some (k, v) ∧ ∀ w, upd kv k w = kv.set (j - i) (k, w) := by
  intro kv
  induction kv with
  | nil => intro k i j v h; simp [lookI] at h
  | cons p r ih =>
    intro k i j v h
    simp only [lookI] at h
    split at h
    · rename_i e; cases h; subst e
      refine ⟨Nat.le_refl _, by simp, fun w => by simp [upd]⟩
    · rename_i e
      obtain ⟨h1, h2, h3⟩ := ih _ _ _ _ h
      have e2 : j - i = (j - (i + 1)) + 1 := by omega
      refine ⟨by omega, by rw [e2]; simpa using h2, fun w => ?_⟩
      rw [e2]; simp [upd, e, h3 w]
theorem lookI_none {kv : List (κ × ν)} {k : κ} {i : Nat} (h : lookI kv k i = none) : k ∉ kv.map (·.1) ∧ ∀ w, upd kv k w = kv ++ [(k, w)] := by
  induction kv generalizing i with
  | nil => simp [upd]
  | cons p r ih =>
    simp only [lookI] at h
    split at h
    · cases h
    · rename_i e
      obtain ⟨h1, h2⟩ := ih h
      refine ⟨?_, fun w => by simp [upd, e, h2 w]⟩
      simp only [List.map_cons, List.mem_cons, not_or]; exact ⟨e, h1⟩

omit [DecidableEq κ] in
theorem zip_modify {ek : κ → Value} {ev : ν → Value} : ∀ (kv : List (κ × ν)) (bs : List Nat) (j : Nat) (k : κ) (v w : ν), bs.length = kv.length → kv[j]? = some (k, v) →
    (List.zipWith (mkE ek ev) kv bs).modify j (fun e => { e with key := ek k, val := ev w }) = List.zipWith (mkE ek ev) (kv.set j (k, w)) bs := by
  intro kv
  induction kv with
  | nil => intro bs j k v w h hj; simp at hj
  | cons p r ih =>
    intro bs j k v w h hj
    cases bs with
    | nil => simp at h
    | cons b bs =>
      cases j with
      | zero => simp [mkE]
      | succ j => simpa using ih bs j k v w (by simpa using h) (by simpa using hj)

/-- a map is written -/
theorem i_mupd {kb : Bk} {ek : κ → Value} [KeyOk kb ek] {ev : ν → Value} {N : Num} {Γ : Ctx} {g h : Heap} {m : Nat} {kv : List (κ × ν)} {bs : List Nat} {ck : Nat} (hm : MapB ek ev g m kv bs ck) (hg : Heap.le g h) (k : κ) (v : ν) {K : Value → Heap → Prop}
    (hK : ∀ o bs' ck', MapB ek ev (g.set m o) m (upd kv k v) bs' ck' → Step g h (g.set m o) (h.set m o) → (k ∈ kv.map (·.1) → bs' = bs ∧ ck' = ck) → K undef (h.set m o)) : efW N Γ (.mupd kb) [.map (some m), ek k, ev v] h K := by
  obtain ⟨es, h1, h2, h3, h4, h5, h6⟩ := hm
  have hgm : g m ≠ none := by rw [h1]; simp
  refine ⟨es, ck, hg _ _ h1, _, by rw [h2]; exact findE_eq k kv bs 0 h3, ?_⟩
  cases hl : lookI kv k 0 with
  | none =>
    obtain ⟨n1, n2⟩ := lookI_none hl
    simp only [Option.map_none]
    refine hK _ (bs ++ [ck]) (ck + 1) ⟨_, Heap.set_eq, ?_, ?_, ?_, ?_, ?_⟩ (Step.set hg hgm _) (fun hk => absurd hk n1)
    · rw [n2 v]
      simp only [Array.toList_push, h2]
      rw [List.zipWith_append (by simpa using h3.symm)]; simp [mkE]
    · rw [n2 v]; simp [h3]
    · rw [List.nodup_append]
      refine ⟨h4, by simp, ?_⟩
      intro a ha b hb e; simp at hb; subst hb; subst e; exact Nat.lt_irrefl _ (h5 a ha)
    · intro b hb; simp at hb; rcases hb with hb | rfl
      · have := h5 b hb; omega
      · omega
    · exact upd_nodup h6 k v
  | some p =>
    obtain ⟨j, x⟩ := p
    obtain ⟨_, a2, a3⟩ := lookI_spec kv k 0 j x hl
    simp only [Option.map_some]
    rw [Nat.sub_zero] at a2
    have a3' := a3 v
    rw [Nat.sub_zero] at a3'
    refine hK _ bs ck ⟨_, Heap.set_eq, ?_, ?_, h4, h5, ?_⟩ (Step.set hg hgm _) (fun _ => ⟨rfl, rfl⟩)
    · rw [a3', ← zip_modify kv bs j k x v h3 a2, ← h2]; simp
    · rw [a3']; simpa using h3
    · exact upd_nodup h6 k v
omit [DecidableEq κ] in
/-- a new map -/
theorem i_mnew {ek : κ → Value} {ev : ν → Value} {N : Num} {Γ : Ctx} {h : Heap} {K : Value → Heap → Prop}
    (hK : ∀ m h', h m = none → Heap.le h h' → MapB ek ev (fr h h') m ([] : List (κ × ν)) [] 0 → K (.map (some m)) h') : efW N Γ .mnew [] h K := by
  intro m hm
  refine hK m _ hm ((Heap.le.refl h).new hm _) ⟨#[], ?_, by simp, by simp, by simp, by simp, by simp⟩
  simp [fr, hm, Heap.set]

/-! ### going over a map -/
/-- where a walk over a map stands: the entries at these places are behind it -/
def IterB (h : Heap) (r m : Nat) (ck : Nat) (dn : List Nat) : Prop := h r = some (.mapIter (some m) ck dn.toArray ck)

theorem i_rng {N : Num} {Γ : Ctx} {h : Heap} {m : Nat} {es : Array MapEntry} {ck : Nat} (hm : h m = some (.map es ck)) {K : Value → Heap → Prop}
    (hK : ∀ r h', h r = none → Heap.le h h' → IterB (fr h h') r m ck [] → K (.pointer (some ⟨r, 0, none⟩)) h') : efW N Γ .rng [.map (some m)] h K := by
  refine ⟨es, ck, hm, fun r hr => hK r _ hr ((Heap.le.refl h).new hr _) ?_⟩
  simp [IterB, fr, hr, Heap.set]
theorem i_rng0 {N : Num} {Γ : Ctx} {h : Heap} {K : Value → Heap → Prop}
    (hK : ∀ r h', h r = none → Heap.le h h' → fr h h' r = some (.mapIter none 0 #[] 0) → K (.pointer (some ⟨r, 0, none⟩)) h') : efW N Γ .rng [.map none] h K := by
  intro r hr
  exact hK r _ hr ((Heap.le.refl h).new hr _) (by simp [fr, hr, Heap.set])
theorem i_nxt0 {N : Num} {Γ : Ctx} {h : Heap} {r a b : Nat} {s : Array Nat} (hr : h r = some (.mapIter none a s b)) {K : Value → Heap → Prop} (hK : K (.tuple #[.bool false]) h) : efW N Γ .nxt [.pointer (some ⟨r, 0, none⟩)] h K :=
  .inl ⟨_, _, _, hr, hK⟩

omit [DecidableEq κ] in
/-- the next entry of a map to which none was added: there is one that is not behind us, or all are -/
theorem i_nxt {ek : κ → Value} {ev : ν → Value} {N : Num} {Γ : Ctx} {h : Heap} {r m : Nat} {kv : List (κ × ν)} {bs : List Nat} {ck : Nat} (hm : MapB ek ev h m kv bs ck) {dn : List Nat} (hr : IterB h r m ck dn) (hsub : ∀ b ∈ dn, b ∈ bs) {K : Value → Heap → Prop}
    (hend : (∀ b ∈ bs, b ∈ dn) → K (.tuple #[.bool false]) h)
    (hnext : ∀ (i b : Nat) k v, kv[i]? = some (k, v) → bs[i]? = some b → b ∉ dn → K (.tuple #[.bool true, ek k, ev v]) (h.set r (.mapIter (some m) ck (dn ++ [b]).toArray ck))) : efW N Γ .nxt [.pointer (some ⟨r, 0, none⟩)] h K := by
  obtain ⟨es, h1, h2, h3, h4, h5, h6⟩ := hm
  have hmem : ∀ e ∈ es.toList, ∃ (i : Nat) (k : κ) (v : ν) (b : Nat), kv[i]? = some (k, v) ∧ bs[i]? = some b ∧ e = mkE ek ev (k, v) b := by
    intro e he
    rw [h2] at he
    obtain ⟨i, hi, rfl⟩ := List.getElem_of_mem he
    simp only [List.length_zipWith] at hi
    have hi1 : i < kv.length := by omega
    have hi2 : i < bs.length := by omega
    exact ⟨i, kv[i].1, kv[i].2, bs[i], by simp [hi1], by simp [hi2], by simp⟩
  have hborn : ∀ e ∈ es.toList, e.born ∈ bs ∧ e.born < ck := by
    intro e he
    obtain ⟨i, k, v, b, a1, a2, rfl⟩ := hmem e he
    have := List.mem_of_getElem? a2
    exact ⟨this, h5 _ this⟩
  have hnew : (es.filter fun e => !dn.toArray.contains e.born).filter (fun e => decide (e.born ≥ ck)) = #[] := by
    apply Array.toList_inj.1
    simp only [Array.toList_filter]
    rw [List.filter_eq_nil_iff]
    intro e he
    have := (hborn e (List.mem_filter.1 he).1).2
    simp; omega
  have hold : ∀ e, e ∈ ((es.filter fun e => !dn.toArray.contains e.born).filter (fun e => decide (e.born < ck))) ↔ e ∈ es.toList ∧ e.born ∉ dn := by
    intro e
    simp only [Array.mem_filter, Array.mem_toList_iff]
    constructor
    · rintro ⟨⟨a, b⟩, _⟩; exact ⟨a, by simpa using b⟩
    · rintro ⟨a, b⟩; exact ⟨⟨a, by simpa using b⟩, by simpa using (hborn e (by simpa using a)).2⟩
  refine .inr ⟨m, ck, dn.toArray, ck, es, ck, hr, h1, ?_, ?_, ?_⟩
  · by_cases he : es.isEmpty
    · simp [he]
    · have : ∃ e, e ∈ es.toList := by
        cases hl : es.toList with
        | nil => exfalso; apply he; simp [Array.isEmpty, ← Array.length_toList, hl]
        | cons e l => exact ⟨e, by simp⟩
      obtain ⟨e, hme⟩ := this
      have hlt := (hborn e hme).2
      have : es.all (fun x => decide (x.born ≥ ck)) = false := by
        rw [← Array.all_toList, List.all_eq_false]
        exact ⟨e, hme, by simp; omega⟩
      simp [this]
  · unfold cands
    simp only [hnew]
    intro h0
    simp only [Array.size_append, Array.size_map] at h0
    split at h0
    · simp at h0
    · rename_i hne
      apply hne
      simpa using h0
  · intro c hc
    unfold cands at hc
    simp only [hnew] at hc
    cases c with
    | none =>
      apply hend
      simp only [Array.toList_append, List.mem_append] at hc
      rcases hc with hc | hc
      · split at hc
        · rename_i hemp
          intro b hb
          apply Classical.byContradiction
          intro hnb
          obtain ⟨i, hi, rfl⟩ := List.getElem_of_mem hb
          have hi1 : i < kv.length := by omega
          have : mkE ek ev kv[i] bs[i] ∈ es.toList := by
            rw [h2]
            have hlen : i < (List.zipWith (mkE ek ev) kv bs).length := by simp; omega
            have e : (List.zipWith (mkE ek ev) kv bs)[i] = mkE ek ev kv[i] bs[i] := by simp
            rw [← e]; exact List.getElem_mem hlen
          have h7 := (hold _).2 ⟨this, by simpa [mkE] using hnb⟩
          simp only [Array.isEmpty_iff] at hemp
          rw [hemp] at h7
          simp at h7
        · simp at hc
      · simp at hc
    | some e =>
      simp only [Array.toList_append, List.mem_append] at hc
      rcases hc with hc | hc
      · split at hc <;> simp at hc
      · simp only [Array.append_empty, Array.toList_map, List.mem_map, Option.some.injEq, exists_eq_right, Array.mem_toList_iff] at hc
        obtain ⟨a1, a2⟩ := (hold e).1 hc
        obtain ⟨i, k, v, b, b1, b2, rfl⟩ := hmem e a1
        have := hnext i b k v b1 b2 a2
        simpa [mkE] using this

omit [DecidableEq κ] in
/-- the entry at which a walk stands -/
theorem i_ent {ek : κ → Value} {ev : ν → Value} {N : Num} {Γ : Ctx} {h : Heap} {r m : Nat} {kv : List (κ × ν)} {bs : List Nat} {ck : Nat} (hm : MapB ek ev h m kv bs ck) {dn : List Nat} {b : Nat} (hr : IterB h r m ck (dn ++ [b])) {i : Nat} {k : κ} {v : ν}
    (h1 : kv[i]? = some (k, v)) (h2 : bs[i]? = some b) {K : Value → Heap → Prop} (hK : K (.tuple #[ek k, ev v]) h) : efW N Γ .ent [.pointer (some ⟨r, 0, none⟩)] h K := by
  obtain ⟨es, a1, a2, a3, a4, a5, a6⟩ := hm
  have hfind : ∀ (kv : List (κ × ν)) (bs : List Nat) (i : Nat), bs.length = kv.length → bs.Nodup → kv[i]? = some (k, v) → bs[i]? = some b → (List.zipWith (mkE ek ev) kv bs).find? (fun e => e.born == b) = some (mkE ek ev (k, v) b) := by
    intro kv
    induction kv with
    | nil => intro bs i _ _ h; simp at h
    | cons p kr ih =>
      intro bs i hl hn hk hb
      cases bs with
      | nil => simp at hl
      | cons b' bs =>
        cases i with
        | zero => simp at hk hb; subst hk; subst hb; simp [mkE]
        | succ i =>
          simp only [List.getElem?_cons_succ] at hk hb
          simp only [List.nodup_cons] at hn
          have : b' ≠ b := by rintro rfl; exact hn.1 (List.mem_of_getElem? hb)
          simp only [List.zipWith_cons_cons, List.find?_cons]
          have hf : ((mkE ek ev p b').born == b) = false := by simp [mkE, this]
          rw [hf]
          exact ih bs i (by simpa using hl) hn.2 hk hb
  refine ⟨m, ck, (dn ++ [b]).toArray, ck, b, es, hr, by simp, a1, mkE ek ev (k, v) b, ?_, hK⟩
  rw [← Array.find?_toList, a2]
  exact hfind kv bs i a3 a4 h1 h2
end
end Go.Cw
/- Own slices, each a block of its own. -/
namespace Go.Cw
open Go

def blkOf : Value → Option Nat
  | .slice (some a) _ _ => some a.block
  | _ => none
/-- an own slice: nil, or the whole of a block -/
def SlB {α : Type} (enc : α → List Value) (sz : Nat) (g : Heap) (v : Value) (l : List α) : Prop :=
  ∃ a cap, v = .slice a l.length cap ∧ l.length ≤ cap ∧ cap ≤ maxLen ∧
    ((a = none ∧ l = [] ∧ cap = 0) ∨ ∃ b c t, a = some ⟨b, 0, none⟩ ∧ g b = some (.cells c t (0, 0)) ∧ c.size = cap * sz ∧ ∀ i, i < (l.flatMap enc).length → c[i]? = (l.flatMap enc)[i]?)
theorem SlB.own {α : Type} {enc : α → List Value} {sz : Nat} {g h0 : Heap} {v : Value} {l : List α} (hs : SlB enc sz g v l) (hl : Heap.le h0 g) (hb : ∀ b, blkOf v = some b → h0 b = none) : OwnS enc sz h0 g v l := by
  obtain ⟨a, cap, rfl, h1, h2, h3⟩ := hs
  refine ⟨hl, a, cap, rfl, h1, h2, h3.imp id ?_⟩
  rintro ⟨b, c, t, rfl, h4, h5, h6⟩
  exact ⟨b, c, t, rfl, hb b rfl, h4, h5, h6⟩
theorem OwnS.slb {α : Type} {enc : α → List Value} {sz : Nat} {g h0 : Heap} {v : Value} {l : List α} (hs : OwnS enc sz h0 g v l) : SlB enc sz g v l ∧ ∀ b, blkOf v = some b → h0 b = none := by
  obtain ⟨_, a, cap, rfl, h1, h2, h3⟩ := hs
  refine ⟨⟨a, cap, rfl, h1, h2, h3.imp id ?_⟩, ?_⟩
  · rintro ⟨b, c, t, rfl, _, h4, h5, h6⟩
    exact ⟨b, c, t, rfl, h4, h5, h6⟩
  · intro b hb
    rcases h3 with ⟨rfl, _⟩ | ⟨b', c, t, rfl, h3, _⟩
    · simp [blkOf] at hb
    · simp only [blkOf, Option.some.injEq] at hb; subst hb; exact h3
theorem SlB.nil {α : Type} {enc : α → List Value} {sz : Nat} {g : Heap} : SlB enc sz g (.slice none 0 0) ([] : List α) := ⟨none, 0, rfl, by simp, by simp [maxLen], .inl ⟨rfl, rfl, rfl⟩⟩
theorem SlB.mem {α : Type} {enc : α → List Value} {sz : Nat} {g : Heap} {v : Value} {l : List α} (hs : SlB enc sz g v l) {b : Nat} (hb : blkOf v = some b) : g b ≠ none := by
  obtain ⟨a, cap, rfl, h1, h2, h3⟩ := hs
  rcases h3 with ⟨rfl, _⟩ | ⟨b', c, t, rfl, h3, _⟩
  · simp [blkOf] at hb
  · simp only [blkOf, Option.some.injEq] at hb; subst hb; rw [h3]; simp
theorem SlB.same {α : Type} {enc : α → List Value} {sz : Nat} {g g' : Heap} {v : Value} {l : List α} (hs : SlB enc sz g v l) (hb : ∀ b, blkOf v = some b → g' b = g b) : SlB enc sz g' v l := by
  obtain ⟨a, cap, rfl, h1, h2, h3⟩ := hs
  refine ⟨a, cap, rfl, h1, h2, h3.imp id ?_⟩
  rintro ⟨b, c, t, rfl, h4, h5, h6⟩
  exact ⟨b, c, t, rfl, by rw [hb b rfl]; exact h4, h5, h6⟩
theorem SlB.le {α : Type} {enc : α → List Value} {sz : Nat} {g g' : Heap} {v : Value} {l : List α} (hs : SlB enc sz g v l) (hl : Heap.le g g') : SlB enc sz g' v l := by
  refine hs.same fun b hb => ?_
  cases hg : g b with
  | none => exact absurd hg (hs.mem hb)
  | some o => exact hl b o hg
theorem SlB.sl {α : Type} {enc : α → List Value} {sz : Nat} (he : ∀ x, (enc x).length = sz) {g : Heap} {v : Value} {l : List α} (hs : SlB enc sz g v l) : Sl enc g v l := by
  have := hs.own (h0 := fun _ => none) (fun b o h => by cases h) (fun _ _ => rfl)
  exact this.sl he
theorem SlB.one {α : Type} {enc : α → List Value} {sz : Nat} {g : Heap} {v : Value} {l : List α} (hs : SlB enc sz g v l) : Cw.one v = true ∧ v.cells = #[v] := by
  obtain ⟨a, cap, rfl, _⟩ := hs; exact ⟨rfl, rfl⟩

/-- a new slice -/
theorem i_bslB {α : Type} (enc : α → List Value) (sz : Nat) (he : ∀ x, (enc x).length = sz) (l : List α) {N : Num} {Γ : Ctx} {h : Heap} {t n : Nat} {c : Array Value} {K : Value → Heap → Prop} (hc : c.toList = l.flatMap enc) (hn : n = l.length) (hm : l.length ≤ maxLen)
    (hx : ∀ v b h', Heap.le h h' → h b = none → blkOf v = some b → SlB enc sz (fr h h') v l → K v h') : efW N Γ (.bsl t n) [.agg c] h K := by
  subst hn
  intro b hb
  refine hx _ b _ ((Heap.le.refl h).new hb _) hb rfl ⟨_, _, rfl, Nat.le_refl _, hm, .inr ⟨b, c, N.tid t, rfl, by simp [fr, hb, Heap.set], ?_, ?_⟩⟩
  · rw [← Array.length_toList, hc, flat_len he]
  · intro i hi
    rw [← Array.getElem?_toList, hc]

/-- append to an own slice -/
theorem i_appB {α : Type} {enc : α → List Value} {sz : Nat} (he : ∀ x, (enc x).length = sz) {N : Num} {Γ : Ctx} {g h : Heap} {t bytes : Nat} {v x : Value} {l l' : List α} (hone : ∀ x ∈ l', (enc x).all Cw.one = true)
    (hs : SlB enc sz g v l) (hg : Heap.le g h) (hx : Sl enc h x l') (hlen : (l.length + l'.length) * (bytes + 1) ≤ 1073741824) {K : Value → Heap → Prop}
    (hK : ∀ v' h' g', SlB enc sz g' v' (l ++ l') → Step g h g' h' → (∀ b, blkOf v ≠ some b → blkOf v' ≠ some b → g' b = g b) → (∀ b, blkOf v' = some b → blkOf v = some b ∨ h b = none) →
      (∀ b o, h b = some o → blkOf v ≠ some b → h' b = some o) → K v' h') : efW N Γ (.app t sz bytes) [v, x] h K := by
  have hown : OwnS enc sz (fun b => if blkOf v = some b then none else h b) h v l := by
    refine (hs.le hg).own ?_ ?_
    · intro b o hb; dsimp only at hb; split at hb
      · cases hb
      · exact hb
    · intro b hb; simp [hb]
  refine i_app1 he hone hown hx hlen fun v' h' ho => ?_
  obtain ⟨h1, h2⟩ := ho.slb
  have hle := ho.1
  refine hK v' h' (fun b => if blkOf v' = some b then h' b else if blkOf v = some b then none else g b) ?_ ⟨?_, ?_, ?_⟩ ?_ ?_ ?_
  · exact h1.same fun b hb => by simp [hb]
  · intro b o hb
    dsimp only at hb
    split at hb
    · exact hb
    · split at hb
      · cases hb
      · rename_i hv; exact hle b o (by simp [hv]; exact hg b o hb)
  · intro b o hb hgb
    have hv : blkOf v ≠ some b := fun e => hs.mem e hgb
    exact hle b o (by simp [hv]; exact hb)
  · intro b hb hgb
    have hv : blkOf v ≠ some b := fun e => hs.mem e hgb
    have hv' : blkOf v' ≠ some b := by
      intro e
      have := h2 b e
      simp only [hv, if_false] at this
      exact hb this
    simp [hv, hv', hgb]
  · intro b hv hv'; simp [hv, hv']
  · intro b hb
    have := h2 b hb
    by_cases e : blkOf v = some b
    · exact .inl e
    · simp only [e, if_false] at this; exact .inr this
  · intro b o hb hv
    exact hle b o (by simp [hv]; exact hb)
end Go.Cw
/- Sights, epochs, and where a tag is: what the program and the document reckon. -/
namespace Go.Cw
open Go

structure Si where
  place : Int
  strength : Int
  time : Int
  tag : List UInt8
  deriving DecidableEq, Inhabited
def Si.enc (s : Si) : List Value := [.int .i64 s.place, .int .i64 s.strength, .int .i64 s.time, .string (str s.tag)]
theorem Si.enc_len (s : Si) : s.enc.length = 4 := rfl
theorem Si.enc_one (s : Si) : s.enc.all one = true := rfl
def Si.bad (s : Si) : Prop := s.place < 0 ∨ 7 < s.place ∨ s.strength < 0 ∨ 255 < s.strength
instance Si.decBad (s : Si) : Decidable s.bad := by unfold Si.bad; infer_instance

def seen (l : List Si) (tag : List UInt8) (p : Int) : Prop := ∃ s ∈ l, s.tag = tag ∧ s.place = p
instance (l : List Si) (tag : List UInt8) (p : Int) : Decidable (seen l tag p) := by unfold seen; infer_instance
def sumS (l : List Si) (tag : List UInt8) (p : Int) : Int := ((l.filter fun s => decide (s.tag = tag ∧ s.place = p)).map (·.strength)).sum
def toldIn (l : List Si) (tag : List UInt8) : Prop := ∃ s ∈ l, s.tag = tag
instance (l : List Si) (tag : List UInt8) : Decidable (toldIn l tag) := by unfold toldIn; infer_instance

abbrev Ep := List (List UInt8 × List (Int × Int))
def addS (E : Ep) (s : Si) : Ep := upd E s.tag (upd ((look E s.tag).getD []) s.place ((look ((look E s.tag).getD []) s.place).getD 0 + s.strength))
def tellE (l : List Si) : Ep := l.foldl addS []
theorem tellE_snoc (l : List Si) (s : Si) : tellE (l ++ [s]) = addS (tellE l) s := by simp [tellE]

theorem snoc_ind {α : Type} {P : List α → Prop} (h0 : P []) (hs : ∀ l a, P l → P (l ++ [a])) (l : List α) : P l := by
  have : ∀ n (l : List α), l.length = n → P l := by
    intro n
    induction n with
    | zero => intro l h; rw [List.eq_nil_of_length_eq_zero h]; exact h0
    | succ n ih =>
      intro l h
      rcases List.eq_nil_or_concat l with rfl | ⟨l', a, rfl⟩
      · exact h0
      · rw [List.concat_eq_append] at h ⊢; exact hs l' a (ih l' (by simpa using h))
  exact this _ l rfl

theorem seen_snoc (l : List Si) (s : Si) (tag : List UInt8) (p : Int) : seen (l ++ [s]) tag p ↔ seen l tag p ∨ (s.tag = tag ∧ s.place = p) := by
  simp only [seen, List.mem_append, List.mem_singleton]
  constructor
  · rintro ⟨x, hx | rfl, h⟩
    · exact .inl ⟨x, hx, h⟩
    · exact .inr h
  · rintro (⟨x, hx, h⟩ | h)
    · exact ⟨x, .inl hx, h⟩
    · exact ⟨s, .inr rfl, h⟩
theorem toldIn_snoc (l : List Si) (s : Si) (tag : List UInt8) : toldIn (l ++ [s]) tag ↔ toldIn l tag ∨ s.tag = tag := by
  simp only [toldIn, List.mem_append, List.mem_singleton]
  constructor
  · rintro ⟨x, hx | rfl, h⟩
    · exact .inl ⟨x, hx, h⟩
    · exact .inr h
  · rintro (⟨x, hx, h⟩ | h)
    · exact ⟨x, .inl hx, h⟩
    · exact ⟨s, .inr rfl, h⟩
theorem sumS_snoc (l : List Si) (s : Si) (tag : List UInt8) (p : Int) : sumS (l ++ [s]) tag p = sumS l tag p + (if s.tag = tag ∧ s.place = p then s.strength else 0) := by
  unfold sumS
  rw [List.filter_append, List.map_append, List.sum_append]
  by_cases h : s.tag = tag ∧ s.place = p <;> simp [h]
theorem sumS_zero {l : List Si} {tag : List UInt8} {p : Int} (h : ¬ seen l tag p) : sumS l tag p = 0 := by
  unfold sumS
  have : l.filter (fun s => decide (s.tag = tag ∧ s.place = p)) = [] := by
    rw [List.filter_eq_nil_iff]
    intro s hs hd
    exact h ⟨s, hs, by simpa using hd⟩
  rw [this]; rfl

/-- WHAT THE MAPS OF AN EPOCH HOLD. -/
theorem tellE_spec (l : List Si) : (∀ tag, look (tellE l) tag = none ↔ ¬ toldIn l tag) ∧ ((tellE l).map (·.1)).Nodup ∧
    ∀ tag pl, look (tellE l) tag = some pl → (pl.map (·.1)).Nodup ∧ ∀ p, look pl p = if seen l tag p then some (sumS l tag p) else none := by
  induction l using snoc_ind with
  | h0 =>
    refine ⟨fun tag => ?_, by simp [tellE], fun tag pl h => by simp [tellE, look_nil] at h⟩
    simp [tellE, look_nil, toldIn]
  | hs l s ih =>
    obtain ⟨i1, i2, i3⟩ := ih
    rw [tellE_snoc]
    refine ⟨fun tag => ?_, upd_nodup i2 _ _, fun tag pl h => ?_⟩
    · rw [addS, look_upd, toldIn_snoc]
      by_cases e : tag = s.tag
      · rw [if_pos e]; simp [e]
      · rw [if_neg e, i1 tag]
        have : ¬ s.tag = tag := fun h => e h.symm
        simp [this]
    · rw [addS, look_upd] at h
      by_cases e : tag = s.tag
      · rw [if_pos e] at h
        cases h
        have hpl : (((look (tellE l) s.tag).getD []).map (·.1)).Nodup ∧ ∀ p, look ((look (tellE l) s.tag).getD []) p = if seen l s.tag p then some (sumS l s.tag p) else none := by
          cases hh : look (tellE l) s.tag with
          | none =>
            have h1 := (i1 s.tag).1 hh
            refine ⟨by simp, fun p => ?_⟩
            have : ¬ seen l s.tag p := by rintro ⟨x, hx, h2, _⟩; exact h1 ⟨x, hx, h2⟩
            simp [this, look_nil]
          | some pl => exact i3 s.tag pl hh
        subst e
        refine ⟨upd_nodup hpl.1 _ _, fun p => ?_⟩
        rw [look_upd]
        by_cases e2 : p = s.place
        · subst e2
          have h1 : seen (l ++ [s]) s.tag s.place := (seen_snoc ..).2 (.inr ⟨rfl, rfl⟩)
          rw [if_pos rfl, if_pos h1, sumS_snoc, if_pos ⟨rfl, rfl⟩, hpl.2 s.place]
          by_cases h2 : seen l s.tag s.place
          · rw [if_pos h2]; rfl
          · rw [if_neg h2, sumS_zero h2]; rfl
        · have h1 : seen (l ++ [s]) s.tag p ↔ seen l s.tag p := by
            rw [seen_snoc]; constructor
            · rintro (h | ⟨_, h⟩)
              · exact h
              · exact absurd h.symm e2
            · exact .inl
          rw [if_neg e2, sumS_snoc, if_neg (show ¬ (s.tag = s.tag ∧ s.place = p) from fun h => e2 h.2.symm), hpl.2 p]
          by_cases h2 : seen l s.tag p
          · rw [if_pos h2, if_pos (h1.2 h2)]; simp
          · rw [if_neg h2, if_neg (fun h => h2 (h1.1 h))]
      · rw [if_neg e] at h
        obtain ⟨a, b⟩ := i3 tag pl h
        refine ⟨a, fun p => ?_⟩
        have hne : ¬ (s.tag = tag) := fun h => e h.symm
        have h1 : seen (l ++ [s]) tag p ↔ seen l tag p := by
          rw [seen_snoc]; constructor
          · rintro (h | ⟨h, _⟩)
            · exact h
            · exact absurd h hne
          · exact .inl
        rw [b p, sumS_snoc, if_neg (show ¬ (s.tag = tag ∧ s.place = p) from fun h => hne h.1)]
        by_cases h2 : seen l tag p
        · rw [if_pos h2, if_pos (h1.2 h2)]; simp
        · rw [if_neg h2, if_neg (fun h => h2 (h1.1 h))]

theorem sumS_bound {l : List Si} (hb : ∀ s ∈ l, ¬ s.bad) (tag : List UInt8) (p : Int) : 0 ≤ sumS l tag p ∧ sumS l tag p ≤ 255 * l.length := by
  induction l using snoc_ind with
  | h0 => simp [sumS]
  | hs l s ih =>
    have h1 := ih fun x hx => hb x (by simp [hx])
    have h2 := hb s (by simp)
    simp only [Si.bad] at h2
    rw [sumS_snoc]
    simp only [List.length_append, List.length_cons, List.length_nil]
    split <;> omega
theorem seen_place {l : List Si} (hb : ∀ s ∈ l, ¬ s.bad) {tag : List UInt8} {p : Int} (h : seen l tag p) : 0 ≤ p ∧ p ≤ 7 := by
  obtain ⟨s, hs, _, rfl⟩ := h
  have := hb s hs
  simp only [Si.bad] at this
  omega

/-! where a tag is -/
def cntE (W : List (List Si)) (tag : List UInt8) (p : Int) : Nat := (W.filter fun l => decide (seen l tag p)).length
def strE (W : List (List Si)) (tag : List UInt8) (p : Int) : Int := (W.map fun l => sumS l tag p).sum
def bestTo (need : Nat) (cnt : Int → Nat) (st : Int → Int) : Nat → Int
  | 0 => -1
  | p + 1 => if cnt p < need then bestTo need cnt st p else if bestTo need cnt st p < 0 ∨ cnt (bestTo need cnt st p) < cnt p ∨ (cnt p = cnt (bestTo need cnt st p) ∧ st (bestTo need cnt st p) < st p) then p else bestTo need cnt st p
def atW (need : Nat) (W : List (List Si)) (tag : List UInt8) : Int := bestTo need (cntE W tag) (strE W tag) 8
/-- where a tag is in the last epoch -/
def atE (window need : Nat) (EL : List (List Si)) (tag : List UInt8) : Int := atW need (EL.drop (EL.length - window)) tag
theorem bestTo_range (need : Nat) (cnt : Int → Nat) (st : Int → Int) : ∀ n, -1 ≤ bestTo need cnt st n ∧ bestTo need cnt st n < n := by
  intro n
  induction n with
  | zero => simp [bestTo]
  | succ n ih => simp only [bestTo]; split <;> (try split) <;> omega
theorem cntE_snoc (W : List (List Si)) (l : List Si) (tag : List UInt8) (p : Int) : cntE (W ++ [l]) tag p = cntE W tag p + if seen l tag p then 1 else 0 := by
  unfold cntE; rw [List.filter_append, List.length_append]; by_cases h : seen l tag p <;> simp [h]
theorem strE_snoc (W : List (List Si)) (l : List Si) (tag : List UInt8) (p : Int) : strE (W ++ [l]) tag p = strE W tag p + sumS l tag p := by
  unfold strE; simp
theorem cntE_le (W : List (List Si)) (tag : List UInt8) (p : Int) : cntE W tag p ≤ W.length := List.length_filter_le _ _
theorem strE_bound {W : List (List Si)} (hb : ∀ l ∈ W, (∀ s ∈ l, ¬ s.bad) ∧ l.length ≤ 1000000) (tag : List UInt8) (p : Int) : 0 ≤ strE W tag p ∧ strE W tag p ≤ 255000000 * W.length := by
  induction W using snoc_ind with
  | h0 => simp [strE]
  | hs W l ih =>
    have h1 := ih fun x hx => hb x (by simp [hx])
    obtain ⟨h2, h3⟩ := hb l (by simp)
    have h4 := sumS_bound h2 tag p
    rw [strE_snoc]
    simp only [List.length_append, List.length_cons, List.length_nil]
    omega
end Go.Cw
namespace Go.Cw
open Go

def mapV (b : Nat) : Value := .map (some b)
def encM (b : Nat) : List Value := [mapV b]
/-- an epoch's maps, as they are read -/
def EpR (g : Heap) (m : Nat) (E : Ep) : Prop := ∃ kv bs ck, MapB encKS mapV g m kv bs ck ∧ (∀ tag, look kv tag = none ↔ look E tag = none) ∧
  ∀ tag b, look kv tag = some b → ∃ pl bs ck, look E tag = some pl ∧ MapB encKI encKI g b pl bs ck
theorem EpR.le {g h : Heap} {m : Nat} {E : Ep} (he : EpR g m E) (hl : Heap.le g h) : EpR h m E := by
  obtain ⟨kv, bs, ck, h1, h2, h3⟩ := he
  exact ⟨kv, bs, ck, h1.le hl, h2, fun tag b hb => let ⟨pl, bs, ck, a, c⟩ := h3 tag b hb; ⟨pl, bs, ck, a, c.le hl⟩⟩

/-- a track, as it is read for a place -/
structure TrR (h : Heap) (a : Addr) (window need : Nat) (EL : List (List Si)) : Prop where
  ex : ∃ ev wv ems, objAt h a [.int .i64 window, .int .i64 need, ev, wv] ∧ Sl encM h ev ems ∧ ems.length = EL.length ∧ ∀ i, i < EL.length → EpR h (ems.getD i 0) (tellE (EL.getD i []))
/-- of what size all may be -/
structure TrOk (window need : Nat) (EL : List (List Si)) : Prop where
  w : 1 ≤ window ∧ window ≤ 8
  n : 1 ≤ need ∧ need ≤ window
  len : EL.length ≤ 100000
  ok : ∀ l ∈ EL, (∀ s ∈ l, ¬ s.bad) ∧ l.length ≤ 1000000

theorem Sl.lsl {α : Type} {enc : α → List Value} {sz : Nat} (he : ∀ x, (enc x).length = sz) {h : Heap} {v : Value} {l : List α} (hs : Sl enc h v l) {lo hi : Nat} (h1 : lo ≤ hi) (h2 : hi ≤ l.length) :
    ∃ v', (∀ k k', o3V (.lsl sz) (.v v) (.v (.int k lo)) (.v (.int k' hi)) = some (.v v')) ∧ Sl enc h v' ((l.take hi).drop lo) := by
  obtain ⟨a, cap, rfl, hcap, hr⟩ := hs
  refine ⟨.slice (if cap = lo then a else a.map (·.add (lo * sz))) (hi - lo) (cap - lo), ?_, ?_⟩
  · intro k k'
    simp only [o3V]
    rw [if_pos ⟨by omega, by omega, by omega⟩]
    simp
  · have hlen : ((l.take hi).drop lo).length = hi - lo := by rw [List.length_drop, List.length_take]; omega
    refine ⟨_, cap - lo, by rw [hlen], by rw [hlen]; omega, ?_⟩
    by_cases hz : hi = lo
    · exact .inl (List.eq_nil_of_length_eq_zero (by omega))
    · have hne : l ≠ [] := by intro e; subst e; simp at h2; omega
      obtain ⟨g, rfl, hrow⟩ := hr.resolve_left hne
      have hc : cap ≠ lo := by omega
      refine .inr ⟨g.add (lo * sz), by simp [hc], ?_⟩
      obtain ⟨r1, c, t, fz, r2, r3, r4⟩ := hrow
      have e1 : (l.take hi).drop lo = (l.drop lo).take (hi - lo) := by rw [List.drop_take]
      have hsplit : l.flatMap enc = (l.take lo).flatMap enc ++ (((l.drop lo).take (hi - lo)).flatMap enc ++ ((l.drop lo).drop (hi - lo)).flatMap enc) := by
        rw [← List.flatMap_append, ← List.flatMap_append, List.take_append_drop, List.take_append_drop]
      have hl1 : ((l.take lo).flatMap enc).length = lo * sz := by rw [flat_len he, List.length_take]; congr 1; omega
      have hl2 := congrArg List.length hsplit
      simp only [List.length_append] at hl2
      rw [e1, addr_add' g r1]
      refine ⟨rfl, c, t, fz, r2, by dsimp only; omega, fun i hi' => ?_⟩
      have := r4 (lo * sz + i) (by omega)
      dsimp only
      rw [show g.off + lo * sz + i = g.off + (lo * sz + i) by omega, this, hsplit, List.getElem?_append_right (by omega), List.getElem?_append_left (by omega)]
      congr 1; omega

def arr (f : Int → Int) : List Value := [.int .i64 (f 0), .int .i64 (f 1), .int .i64 (f 2), .int .i64 (f 3), .int .i64 (f 4), .int .i64 (f 5), .int .i64 (f 6), .int .i64 (f 7)]
theorem arr_get (f : Int → Int) {p : Nat} (h : p < 8) : (arr f)[p]? = some (.int .i64 (f p)) := by
  match p, h with
  | 0, _ | 1, _ | 2, _ | 3, _ | 4, _ | 5, _ | 6, _ | 7, _ => rfl
theorem arr_set (f : Int → Int) {p : Nat} (h : p < 8) (v : Int) : (arr f).take p ++ [.int .i64 v] ++ (arr f).drop (p + 1) = arr fun q => if q = p then v else f q := by
  match p, h with
  | 0, _ | 1, _ | 2, _ | 3, _ | 4, _ | 5, _ | 6, _ | 7, _ => simp [arr]
theorem arr_len (f : Int → Int) : (arr f).length = 8 := rfl
theorem arr_congr {f f' : Int → Int} (h : ∀ p : Nat, p < 8 → f p = f' p) : arr f = arr f' := by
  have h0 : f 0 = f' 0 := h 0 (by omega)
  have h1 : f 1 = f' 1 := h 1 (by omega)
  have h2 : f 2 = f' 2 := h 2 (by omega)
  have h3 : f 3 = f' 3 := h 3 (by omega)
  have h4 : f 4 = f' 4 := h 4 (by omega)
  have h5 : f 5 = f' 5 := h 5 (by omega)
  have h6 : f 6 = f' 6 := h 6 (by omega)
  have h7 : f 7 = f' 7 := h 7 (by omega)
  simp only [arr, h0, h1, h2, h3, h4, h5, h6, h7]

theorem countP_lt {l : List Nat} {p q : Nat → Bool} (hpq : ∀ x, p x = true → q x = true) {b : Nat} (hb : b ∈ l) (h1 : q b = true) (h2 : p b = false) : l.countP p < l.countP q := by
  induction l with
  | nil => simp at hb
  | cons x l ih =>
    simp only [List.countP_cons]
    have hle : l.countP p ≤ l.countP q := List.countP_mono_left fun x _ h => hpq x h
    simp only [List.mem_cons] at hb
    rcases hb with rfl | hb
    · simp [h1, h2]; omega
    · have := ih hb
      have hx : (if p x = true then 1 else 0) ≤ (if q x = true then 1 else 0) := by
        by_cases hp : p x = true
        · rw [if_pos hp, if_pos (hpq x hp)]; exact Nat.le_refl _
        · rw [if_neg hp]; exact Nat.zero_le _
      omega
def todo (bs dn : List Nat) : Nat := bs.countP fun b => !dn.contains b
theorem todo_lt {bs dn : List Nat} {b : Nat} (h1 : b ∈ bs) (h2 : b ∉ dn) : todo bs (dn ++ [b]) < todo bs dn := by
  refine countP_lt (b := b) (fun x hx => ?_) h1 (by simpa using h2) (by simp)
  simp only [List.contains_eq_mem, List.mem_append, Bool.not_eq_true', decide_eq_false_iff_not, not_or] at hx ⊢
  exact hx.1

/-- what a walk over the places of an epoch's tag has gathered -/
structure GoneI (h0 : Heap) (tag : List UInt8) (W : List (List Si)) (l : List Si) (pl : List (Int × Int)) (bs : List Nat) (m ck r bc bt : Nat) (dn : List Nat) (dl : List (Int × Int)) (h : Heap) : Prop where
  le : Heap.le h0 h
  it : IterB h r m ck dn
  sub : ∀ b ∈ dn, b ∈ bs
  mem : ∀ (i : Nat) p x b, pl[i]? = some (p, x) → bs[i]? = some b → (b ∈ dn ↔ (p, x) ∈ dl)
  dsub : ∀ e ∈ dl, e ∈ pl
  cnt : objAt h ⟨bc, 0, none⟩ (arr fun p => (cntE W tag p : Int) + if (look dl p).isSome then 1 else 0)
  str : objAt h ⟨bt, 0, none⟩ (arr fun p => strE W tag p + (look dl p).getD 0)

theorem look_snoc {kv : List (Int × Int)} {p x : Int} (hn : look kv p = none) (q : Int) : look (kv ++ [(p, x)]) q = if q = p then some x else look kv q := by
  induction kv with
  | nil => simp [look_cons, look_nil]
  | cons e r ih =>
    rw [look_cons] at hn
    split at hn
    · cases hn
    · rename_i hne
      rw [List.cons_append, look_cons, look_cons, ih hn]
      by_cases e1 : q = p
      · subst e1; rw [if_neg hne, if_pos rfl, if_pos rfl]
      · rw [if_neg e1, if_neg e1]

def S60 : Spec := fun args h K => ∃ a tag window need EL, args = [.pointer (some a), .string (Cw.str tag)] ∧ TrR h a window need EL ∧ TrOk window need EL ∧ ∀ h', Heap.le h h' → K (.int .i64 (atE window need EL tag)) h'

theorem F60_ok {N : Num} {Γ : Ctx} [GoodC Γ] : Sat S60 (SF N Γ F60) := by
  rintro _ h K ⟨a, tag, window, need, EL, rfl, ⟨ev, wv, ems, ha, hev, hel, hE⟩, hok, hK⟩
  obtain ⟨⟨w1, w2⟩, ⟨n1, n2⟩, hlen, hEok⟩ := hok
  refine i_fun rfl ?_
  simp only [F60, env0, List.map, List.length, List.replicate, List.cons_append, List.nil_append, Nat.reduceSub, Nat.reduceAdd]
  try simp (disch := first | omega | (simp only [PL]; omega)) only [PS, P1, P2, P3, P4, P5, P6, P7, P8, PA, PB, PC, Nat.reduceAdd, Nat.reduceSub, Nat.reduceMul, Nat.reduceLeDiff, Nat.reduceEqDiff, Nat.succ_ne_self, reduceCtorEq, Int.reduceToNat, Int.cast_ofNat_Int, Int.reduceEq, Int.reduceNe, Int.reduceLT, Int.reduceLE]
  refine i_newO fun bc h1 hle1 hb1 hc1 => ?_
  try simp (disch := first | omega | (simp only [PL]; omega)) only [PS, P1, P2, P3, P4, P5, P6, P7, P8, PA, PB, PC, Nat.reduceAdd, Nat.reduceSub, Nat.reduceMul, Nat.reduceLeDiff, Nat.reduceEqDiff, Nat.succ_ne_self, reduceCtorEq, Int.reduceToNat, Int.cast_ofNat_Int, Int.reduceEq, Int.reduceNe, Int.reduceLT, Int.reduceLE]
  refine i_newO fun bt h2 hle2 hb2 ht2 => ?_
  have hle02 := hle1.trans hle2
  have Ra := (ha.le hle02).rules
  have A0 : h2.cell a = some (.int .i64 window) := Ra.2.1 (by simp)
  have A0' : h2.cell (a.add 0) = some (.int .i64 window) := Ra.1 0 (by simp)
  have A1 : h2.cell (a.add 1) = some (.int .i64 need) := Ra.1 1 (by simp)
  have A2 : h2.cell (a.add 2) = some ev := Ra.1 2 (by simp)
  have Rev := (hev.le hle02).rules1 mapV (fun _ => rfl) 0
  rw [hel] at Rev
  have hlo : max 0 (IntKind.i64.wrap ((EL.length : Int) - window)) = ((EL.length - window : Nat) : Int) := by
    rw [w64 (by omega) (by omega)]; omega
  obtain ⟨v12, e12, hs12⟩ := (hev.le hle02).lsl (sz := 1) (fun _ => rfl) (lo := EL.length - window) (hi := EL.length) (Nat.sub_le _ _) (Nat.le_of_eq hel.symm)
  have R12 := hs12.rules1 mapV (fun _ => rfl) 0
  have hW : ((ems.take EL.length).drop (EL.length - window)).length = (EL.drop (EL.length - window)).length := by simp only [List.length_drop, List.length_take]; omega
  rw [hW] at R12
  try simp (disch := first | omega | (simp only [PL]; omega)) only [PS, P1, P2, P3, P4, P5, P6, P7, P8, PA, PB, PC, Nat.reduceAdd, Nat.reduceSub, Nat.reduceMul, Nat.reduceLeDiff, Nat.reduceEqDiff, Nat.succ_ne_self, reduceCtorEq, Int.reduceToNat, Int.cast_ofNat_Int, Int.reduceEq, Int.reduceNe, Int.reduceLT, Int.reduceLE, A0, A0', A2, Rev, hlo, e12, R12]
  obtain ⟨v12', e12', hs12'⟩ := hev.lsl (sz := 1) (fun _ => rfl) (lo := EL.length - window) (hi := EL.length) (Nat.sub_le _ _) (Nat.le_of_eq hel.symm)
  have e12e : v12 = v12' := by have h1 := e12 .i64 .i64; have h2 := e12' .i64 .i64; rw [h1] at h2; cases h2; rfl
  subst e12e
  have hbcn : bc ≠ bt := by
    obtain ⟨_, c, t, h3, _⟩ := objAt.le hc1 (fr_le h h1)
    rintro rfl; dsimp only at h3; rw [hb2] at h3; cases h3
  have hbt0 : h bt = none := le_none hle1 bt hb2
  have hwl : ∀ i, i < (EL.drop (EL.length - window)).length → EpR h (((ems.take EL.length).drop (EL.length - window)).getD i 0) (tellE ((EL.drop (EL.length - window)).getD i [])) ∧ (EL.drop (EL.length - window)).getD i [] ∈ EL := by
    intro i hi
    rw [List.length_drop] at hi
    have h1 := hE (EL.length - window + i) (by omega)
    have e1 : ((ems.take EL.length).drop (EL.length - window)).getD i 0 = ems.getD (EL.length - window + i) 0 := by
      simp only [List.getD_eq_getElem?_getD, List.getElem?_drop]
      rw [List.getElem?_take_of_lt (by omega)]
    have e2 : (EL.drop (EL.length - window)).getD i [] = EL.getD (EL.length - window + i) [] := by
      simp only [List.getD_eq_getElem?_getD, List.getElem?_drop]
    rw [e1, e2]
    exact ⟨h1, getD_mem [] (by omega)⟩
  have hWlen : (EL.drop (EL.length - window)).length ≤ 8 := by rw [List.length_drop]; omega
  have hWok : ∀ l ∈ EL.drop (EL.length - window), (∀ s ∈ l, ¬ s.bad) ∧ l.length ≤ 1000000 := fun l hl => hEok l (List.mem_of_mem_drop hl)
  have hatE : atE window need EL tag = atW need (EL.drop (EL.length - window)) tag := rfl
  generalize hWW : EL.drop (EL.length - window) = W at *
  refine i_meet_blk (fun env h3 => Heap.le h h3 ∧ objAt h3 ⟨bc, 0, none⟩ (arr fun p => (cntE W tag p : Int)) ∧ objAt h3 ⟨bt, 0, none⟩ (arr (strE W tag)) ∧ env = [some (.pointer (some a)), some (.string (Cw.str tag)), none, some (.pointer (some ⟨bc, 0, none⟩)), some (.pointer (some ⟨bt, 0, none⟩)), none, none, none, none, none, none, none, none, none, none, none, none, none, none, none, none, none, none, none, none]) ?_ ?_
  rotate_left
  · refine i_loop (fun i : Nat => [some (.pointer (some a)), some (.string (Cw.str tag)), none, some (.pointer (some ⟨bc, 0, none⟩)), some (.pointer (some ⟨bt, 0, none⟩)), none, none, none, none, none, none, none, some v12, some (.int .i64 W.length), some (.int .i64 i), none, none, none, none, none, none, none, none, none, none])
      (fun i h3 => i ≤ W.length ∧ Heap.le h h3 ∧ objAt h3 ⟨bc, 0, none⟩ (arr fun p => (cntE (W.take i) tag p : Int)) ∧ objAt h3 ⟨bt, 0, none⟩ (arr (strE (W.take i) tag)))
      (fun i => W.length - i) 0 (by try simp only [Pe, and_true, true_and, and_self]; rfl) ⟨by omega, hle02, objAt.le (objAt.le hc1 (fr_le h h1)) hle2, objAt.le ht2 (fr_le h1 h2)⟩ ?_
    rintro i h3 ⟨hi, hle3, hc3, ht3⟩
    have R3 := (hs12'.le hle3).rules1 mapV (fun _ => rfl) 0
    rw [hW] at R3
    try simp (disch := first | omega | (simp only [PL]; omega)) only [PS, P1, P2, P3, P4, P5, P6, P7, P8, PA, PB, PC, Nat.reduceAdd, Nat.reduceSub, Nat.reduceMul, Nat.reduceLeDiff, Nat.reduceEqDiff, Nat.succ_ne_self, reduceCtorEq, Int.reduceToNat, Int.cast_ofNat_Int, Int.reduceEq, Int.reduceNe, Int.reduceLT, Int.reduceLE, R3]
    refine i_cond (fun c1 => ?_) (fun c1 => ?_)
    rotate_left
    · try simp (disch := first | omega | (simp only [PL]; omega)) only [PS, P1, P2, P3, P4, P5, P6, P7, P8, PA, PB, PC, Nat.reduceAdd, Nat.reduceSub, Nat.reduceMul, Nat.reduceLeDiff, Nat.reduceEqDiff, Nat.succ_ne_self, reduceCtorEq, Int.reduceToNat, Int.cast_ofNat_Int, Int.reduceEq, Int.reduceNe, Int.reduceLT, Int.reduceLE]
      have hie : i = W.length := by omega
      subst hie
      rw [List.take_length] at hc3 ht3
      exact k_meet _ (by try simp only [Pe, and_true, true_and, and_self]) ⟨hle3, hc3, ht3, rfl⟩
    have hi2 : i < W.length := by omega
    obtain ⟨hEp, hmem⟩ := hwl i hi2
    obtain ⟨lb, ll⟩ := hEok _ hmem
    obtain ⟨kv, kbs, kck, hkm, hk1, hk2⟩ := hEp
    have Rk := (hkm.le hle3).rules .str
    have htake : W.take (i + 1) = W.take i ++ [W.getD i []] := take_succ_d [] hi2
    have hspec := tellE_spec (W.getD i [])
    generalize hl : W.getD i [] = l at *
    have hnext : ∀ h4, Heap.le h h4 → objAt h4 ⟨bc, 0, none⟩ (arr fun p => (cntE (W.take i) tag p : Int) + if seen l tag p then 1 else 0) → objAt h4 ⟨bt, 0, none⟩ (arr fun p => strE (W.take i) tag p + if seen l tag p then sumS l tag p else 0) →
        objAt h4 ⟨bc, 0, none⟩ (arr fun p => (cntE (W.take (i + 1)) tag p : Int)) ∧ objAt h4 ⟨bt, 0, none⟩ (arr (strE (W.take (i + 1)) tag)) := by
      intro h4 _ h5 h6
      constructor
      · have : arr (fun p => (cntE (W.take (i + 1)) tag p : Int)) = arr (fun p => (cntE (W.take i) tag p : Int) + if seen l tag p then 1 else 0) := by
          apply arr_congr; intro p hp
          rw [htake, cntE_snoc]; split <;> simp
        rw [this]; exact h5
      · have : arr (strE (W.take (i + 1)) tag) = arr (fun p => strE (W.take i) tag p + if seen l tag p then sumS l tag p else 0) := by
          apply arr_congr; intro p hp
          rw [htake, strE_snoc]
          by_cases hs : seen l tag p
          · rw [if_pos hs]
          · rw [if_neg hs, sumS_zero hs]
        rw [this]; exact h6
    cases hlk : look kv tag with
    | none =>
      have hnt : ∀ p, ¬ seen l tag p := by
        rintro p ⟨s, hs, h1, _⟩
        exact ((hspec.1 tag).1 ((hk1 tag).1 hlk)) ⟨s, hs, h1⟩
      try simp (disch := first | omega | (simp only [PL]; omega)) only [PS, P1, P2, P3, P4, P5, P6, P7, P8, PA, PB, PC, Nat.reduceAdd, Nat.reduceSub, Nat.reduceMul, Nat.reduceLeDiff, Nat.reduceEqDiff, Nat.succ_ne_self, reduceCtorEq, Int.reduceToNat, Int.cast_ofNat_Int, Int.reduceEq, Int.reduceNe, Int.reduceLT, Int.reduceLE, R3, mapV]
      have Rk2 := Rk.1 (.map none) tag
      rw [hlk] at Rk2
      simp only [encKS] at Rk2
      try simp (disch := first | omega | (simp only [PL]; omega)) only [PS, P1, P2, P3, P4, P5, P6, P7, P8, PA, PB, PC, Nat.reduceAdd, Nat.reduceSub, Nat.reduceMul, Nat.reduceLeDiff, Nat.reduceEqDiff, Nat.succ_ne_self, reduceCtorEq, Int.reduceToNat, Int.cast_ofNat_Int, Int.reduceEq, Int.reduceNe, Int.reduceLT, Int.reduceLE, R3, mapV, Rk2]
      refine i_rng0 fun r h4 hr hle4 hfr => ?_
      try simp (disch := first | omega | (simp only [PL]; omega)) only [PS, P1, P2, P3, P4, P5, P6, P7, P8, PA, PB, PC, Nat.reduceAdd, Nat.reduceSub, Nat.reduceMul, Nat.reduceLeDiff, Nat.reduceEqDiff, Nat.succ_ne_self, reduceCtorEq, Int.reduceToNat, Int.cast_ofNat_Int, Int.reduceEq, Int.reduceNe, Int.reduceLT, Int.reduceLE]
      refine i_loop (fun _ : Unit => [some (.pointer (some a)), some (.string (Cw.str tag)), none, some (.pointer (some ⟨bc, 0, none⟩)), some (.pointer (some ⟨bt, 0, none⟩)), none, none, none, none, none, none, none, some v12, some (.int .i64 W.length), some (.int .i64 i), none, some (.pointer (some ⟨r, 0, none⟩)), none, none, none, none, none, none, none, none]) (fun _ h5 => h5 = h4) (fun _ => 0) () (by try simp only [Pe, and_true, true_and, and_self]) rfl ?_
      rintro _ h5 rfl
      try simp (disch := first | omega | (simp only [PL]; omega)) only [PS, P1, P2, P3, P4, P5, P6, P7, P8, PA, PB, PC, Nat.reduceAdd, Nat.reduceSub, Nat.reduceMul, Nat.reduceLeDiff, Nat.reduceEqDiff, Nat.succ_ne_self, reduceCtorEq, Int.reduceToNat, Int.cast_ofNat_Int, Int.reduceEq, Int.reduceNe, Int.reduceLT, Int.reduceLE]
      refine i_nxt0 (fr_le _ _ _ _ hfr) ?_
      try simp (disch := first | omega | (simp only [PL]; omega)) only [PS, P1, P2, P3, P4, P5, P6, P7, P8, PA, PB, PC, Nat.reduceAdd, Nat.reduceSub, Nat.reduceMul, Nat.reduceLeDiff, Nat.reduceEqDiff, Nat.succ_ne_self, reduceCtorEq, Int.reduceToNat, Int.cast_ofNat_Int, Int.reduceEq, Int.reduceNe, Int.reduceLT, Int.reduceLE]
      obtain ⟨n1, n2⟩ := hnext h5 (hle3.trans hle4) (by simpa [hnt] using objAt.le hc3 hle4) (by simpa [hnt] using objAt.le ht3 hle4)
      exact k_loop (i + 1) (by omega) (by try simp only [Pe, and_true, true_and, and_self]) ⟨by omega, hle3.trans hle4, n1, n2⟩
    | some b =>
      obtain ⟨pl, bs, ck, hpl, hbm⟩ := hk2 tag b hlk
      obtain ⟨hpn, hplk⟩ := hspec.2.2 tag pl hpl
      have Rk2 := Rk.1 (.map none) tag
      rw [hlk] at Rk2
      simp only [encKS, mapV] at Rk2
      try simp (disch := first | omega | (simp only [PL]; omega)) only [PS, P1, P2, P3, P4, P5, P6, P7, P8, PA, PB, PC, Nat.reduceAdd, Nat.reduceSub, Nat.reduceMul, Nat.reduceLeDiff, Nat.reduceEqDiff, Nat.succ_ne_self, reduceCtorEq, Int.reduceToNat, Int.cast_ofNat_Int, Int.reduceEq, Int.reduceNe, Int.reduceLT, Int.reduceLE, R3, mapV, Rk2]
      obtain ⟨es, hes, hes2⟩ := hbm
      have hbm : MapB encKI encKI h b pl bs ck := ⟨es, hes, hes2⟩
      refine i_rng (hle3 _ _ hes) fun r h4 hr hle4 hit => ?_
      have hr0 : h r = none := le_none hle3 r hr
      have hle04 := hle3.trans hle4
      have hrc : r ≠ bc := by obtain ⟨_, c, t, h5, _⟩ := hc3; rintro rfl; dsimp only at h5; rw [hr] at h5; cases h5
      have hrt : r ≠ bt := by obtain ⟨_, c, t, h5, _⟩ := ht3; rintro rfl; dsimp only at h5; rw [hr] at h5; cases h5
      try simp (disch := first | omega | (simp only [PL]; omega)) only [PS, P1, P2, P3, P4, P5, P6, P7, P8, PA, PB, PC, Nat.reduceAdd, Nat.reduceSub, Nat.reduceMul, Nat.reduceLeDiff, Nat.reduceEqDiff, Nat.succ_ne_self, reduceCtorEq, Int.reduceToNat, Int.cast_ofNat_Int, Int.reduceEq, Int.reduceNe, Int.reduceLT, Int.reduceLE]
      refine i_loop (fun _ : List Nat × List (Int × Int) => [some (.pointer (some a)), some (.string (Cw.str tag)), none, some (.pointer (some ⟨bc, 0, none⟩)), some (.pointer (some ⟨bt, 0, none⟩)), none, none, none, none, none, none, none, some v12, some (.int .i64 W.length), some (.int .i64 i), none, some (.pointer (some ⟨r, 0, none⟩)), none, none, none, none, none, none, none, none]) (fun s h5 => GoneI h tag (W.take i) l pl bs b ck r bc bt s.1 s.2 h5) (fun s => todo bs s.1) ([], []) (by try simp only [Pe, and_true, true_and, and_self])
        ⟨hle04, fr_le _ _ _ _ hit, by simp, by intro i p x b _ _; simp, by simp, by simpa [look_nil] using objAt.le hc3 hle4, by simpa [look_nil] using objAt.le ht3 hle4⟩ ?_
      rintro ⟨dn, dl⟩ h5 ⟨g1, g2, g3, g4, g5, g6, g7⟩
      dsimp only at g1 g2 g3 g4 g5 g6 g7
      have hbsl : bs.length = pl.length := hes2.2.1
      try simp (disch := first | omega | (simp only [PL]; omega)) only [PS, P1, P2, P3, P4, P5, P6, P7, P8, PA, PB, PC, Nat.reduceAdd, Nat.reduceSub, Nat.reduceMul, Nat.reduceLeDiff, Nat.reduceEqDiff, Nat.succ_ne_self, reduceCtorEq, Int.reduceToNat, Int.cast_ofNat_Int, Int.reduceEq, Int.reduceNe, Int.reduceLT, Int.reduceLE]
      refine i_nxt (hbm.le g1) g2 g3 ?_ ?_
      · intro hall
        have hlook : ∀ p, look dl p = look pl p := by
          intro p
          cases hp : look pl p with
          | some x =>
            have h1 := look_mem hp
            obtain ⟨j, hj, he⟩ := List.getElem_of_mem h1
            have h2 := (g4 j p x (bs[j]'(by omega)) (by rw [List.getElem?_eq_getElem hj, he]) (by simp [hbsl, hj])).1 (hall _ (List.getElem_mem _))
            cases hd : look dl p with
            | none => exact absurd (List.mem_map.2 ⟨_, h2, rfl⟩) (look_none hd)
            | some y =>
              have h3 := g5 _ (look_mem hd)
              have h4 := look_of_mem hpn h3
              rw [hp] at h4; cases h4; rfl
          | none =>
            cases hd : look dl p with
            | none => rfl
            | some y =>
              have h4 := look_of_mem hpn (g5 _ (look_mem hd))
              rw [hp] at h4; cases h4
        try simp (disch := first | omega | (simp only [PL]; omega)) only [PS, P1, P2, P3, P4, P5, P6, P7, P8, PA, PB, PC, Nat.reduceAdd, Nat.reduceSub, Nat.reduceMul, Nat.reduceLeDiff, Nat.reduceEqDiff, Nat.succ_ne_self, reduceCtorEq, Int.reduceToNat, Int.cast_ofNat_Int, Int.reduceEq, Int.reduceNe, Int.reduceLT, Int.reduceLE]
        obtain ⟨m1, m2⟩ := hnext h5 g1 (by
          have : arr (fun p => (cntE (W.take i) tag p : Int) + if seen l tag p then 1 else 0) = arr (fun p => (cntE (W.take i) tag p : Int) + if (look dl p).isSome then 1 else 0) := by
            apply arr_congr; intro p _
            rw [hlook, hplk]; by_cases hs : seen l tag p <;> simp [hs]
          rw [this]; exact g6) (by
          have : arr (fun p => strE (W.take i) tag p + if seen l tag p then sumS l tag p else 0) = arr (fun p => strE (W.take i) tag p + (look dl p).getD 0) := by
            apply arr_congr; intro p _
            rw [hlook, hplk]; by_cases hs : seen l tag p <;> simp [hs]
          rw [this]; exact g7)
        exact k_loop (i + 1) (by omega) (by try simp only [Pe, and_true, true_and, and_self]) ⟨by omega, g1, m1, m2⟩
      · intro j b' p x hj hbj hnd
        have hpx : (p, x) ∈ pl := List.mem_of_getElem? hj
        have hpl2 := look_of_mem hpn hpx
        rw [hplk] at hpl2
        have hseen : seen l tag p := by
          by_cases hs : seen l tag p
          · exact hs
          · rw [if_neg hs] at hpl2; cases hpl2
        rw [if_pos hseen] at hpl2
        have hx : x = sumS l tag p := by cases hpl2; rfl
        obtain ⟨p0, p7⟩ := seen_place lb hseen
        obtain ⟨pn, rfl⟩ : ∃ pn : Nat, p = (pn : Int) := ⟨p.toNat, by omega⟩
        have hpn8 : pn < 8 := by omega
        have hxb := sumS_bound lb tag (pn : Int)
        have hdl : look dl (pn : Int) = none := by
          cases hd : look dl (pn : Int) with
          | none => rfl
          | some y =>
            have h3 := g5 _ (look_mem hd)
            have h4 := look_of_mem hpn h3
            rw [look_of_mem hpn hpx] at h4; cases h4
            exact absurd ((g4 j _ _ _ hj hbj).2 (look_mem hd)) hnd
        have hle5 : Heap.le h (h5.set r (.mapIter (some b) ck (dn ++ [b']).toArray ck)) := by
          intro y o hy
          have e : y ≠ r := by rintro rfl; rw [hr0] at hy; cases hy
          rw [Heap.set_ne e]; exact g1 y o hy
        have hc5 : objAt (h5.set r (.mapIter (some b) ck (dn ++ [b']).toArray ck)) ⟨bc, 0, none⟩ (arr fun p => (cntE (W.take i) tag p : Int) + if (look dl p).isSome then 1 else 0) := by
          obtain ⟨x1, c, t, x2, x3⟩ := g6; exact ⟨x1, c, t, by rw [Heap.set_ne (Ne.symm hrc)]; exact x2, x3⟩
        have ht5 : objAt (h5.set r (.mapIter (some b) ck (dn ++ [b']).toArray ck)) ⟨bt, 0, none⟩ (arr fun p => strE (W.take i) tag p + (look dl p).getD 0) := by
          obtain ⟨x1, c, t, x2, x3⟩ := g7; exact ⟨x1, c, t, by rw [Heap.set_ne (Ne.symm hrt)]; exact x2, x3⟩
        have hi5 : IterB (h5.set r (.mapIter (some b) ck (dn ++ [b']).toArray ck)) r b ck (dn ++ [b']) := Heap.set_eq
        generalize h5.set r (.mapIter (some b) ck (dn ++ [b']).toArray ck) = h6 at *
        try simp (disch := first | omega | (simp only [PL]; omega)) only [PS, P1, P2, P3, P4, P5, P6, P7, P8, PA, PB, PC, Nat.reduceAdd, Nat.reduceSub, Nat.reduceMul, Nat.reduceLeDiff, Nat.reduceEqDiff, Nat.succ_ne_self, reduceCtorEq, Int.reduceToNat, Int.cast_ofNat_Int, Int.reduceEq, Int.reduceNe, Int.reduceLT, Int.reduceLE]
        refine i_ent (hbm.le hle5) hi5 hj hbj ?_
        have Rc := hc5.rules.1 pn (by rw [arr_len]; exact hpn8)
        rw [arr_get _ hpn8, hdl] at Rc
        have Rt := ht5.rules.1 pn (by rw [arr_len]; exact hpn8)
        rw [arr_get _ hpn8, hdl] at Rt
        simp only [Option.isSome_none, Bool.false_eq_true, if_false, Int.add_zero, Option.getD_none] at Rc Rt
        have hcl := cntE_le (W.take i) tag (pn : Int)
        have hcl2 := List.length_take_le i W
        try simp (disch := first | omega | (simp only [PL]; omega)) only [PS, P1, P2, P3, P4, P5, P6, P7, P8, PA, PB, PC, Nat.reduceAdd, Nat.reduceSub, Nat.reduceMul, Nat.reduceLeDiff, Nat.reduceEqDiff, Nat.succ_ne_self, reduceCtorEq, Int.reduceToNat, Int.cast_ofNat_Int, Int.reduceEq, Int.reduceNe, Int.reduceLT, Int.reduceLE, encKI, Rc]
        refine i_st hc5 pn 1 rfl rfl (by omega) (by rw [arr_len]; omega) fun o q1 q2 => ?_
        have hc7 := q1 h6 rfl
        simp only [P8] at hc7
        rw [arr_set _ hpn8] at hc7
        have ht7 : objAt (h6.set bc o) ⟨bt, 0, none⟩ (arr fun p => strE (W.take i) tag p + (look dl p).getD 0) := by
          obtain ⟨x1, c, t, x2, x3⟩ := ht5; exact ⟨x1, c, t, by rw [Heap.set_ne (Ne.symm hbcn)]; exact x2, x3⟩
        have hi7 : IterB (h6.set bc o) r b ck (dn ++ [b']) := by unfold IterB at hi5 ⊢; rw [Heap.set_ne hrc]; exact hi5
        have hle7 : Heap.le h (h6.set bc o) := by
          intro y oo hy
          have e : y ≠ bc := by rintro rfl; rw [hb1] at hy; cases hy
          rw [Heap.set_ne e]; exact hle5 y oo hy
        have Rt7 := ht7.rules.1 pn (by rw [arr_len]; exact hpn8)
        rw [arr_get _ hpn8, hdl] at Rt7
        simp only [Int.add_zero, Option.getD_none] at Rt7
        generalize h6.set bc o = h7 at *
        have hsb := strE_bound (W := W.take i) (fun l' hl' => hWok l' (List.mem_of_mem_take hl')) tag (pn : Int)
        have hw7 : IntKind.i64.wrap (strE (W.take i) tag (pn : Int) + x) = strE (W.take i) tag (pn : Int) + x := w64 (by omega) (by omega)
        try simp (disch := first | omega | (simp only [PL]; omega)) only [PS, P1, P2, P3, P4, P5, P6, P7, P8, PA, PB, PC, Nat.reduceAdd, Nat.reduceSub, Nat.reduceMul, Nat.reduceLeDiff, Nat.reduceEqDiff, Nat.succ_ne_self, reduceCtorEq, Int.reduceToNat, Int.cast_ofNat_Int, Int.reduceEq, Int.reduceNe, Int.reduceLT, Int.reduceLE, Rt7, hw7]
        refine i_st ht7 pn 1 rfl rfl (by omega) (by rw [arr_len]; omega) fun o2 q3 q4 => ?_
        have ht8 := q3 h7 rfl
        simp only [P8] at ht8
        rw [arr_set _ hpn8] at ht8
        try simp (disch := first | omega | (simp only [PL]; omega)) only [PS, P1, P2, P3, P4, P5, P6, P7, P8, PA, PB, PC, Nat.reduceAdd, Nat.reduceSub, Nat.reduceMul, Nat.reduceLeDiff, Nat.reduceEqDiff, Nat.succ_ne_self, reduceCtorEq, Int.reduceToNat, Int.cast_ofNat_Int, Int.reduceEq, Int.reduceNe, Int.reduceLT, Int.reduceLE]
        refine k_loop (dn ++ [b'], dl ++ [((pn : Int), x)]) (todo_lt (List.mem_of_getElem? hbj) hnd) (by try simp only [Pe, and_true, true_and, and_self]) ⟨?_, ?_, ?_, ?_, ?_, ?_, ?_⟩
        · intro y oo hy
          have e : y ≠ bt := by rintro rfl; rw [hbt0] at hy; cases hy
          rw [Heap.set_ne e]; exact hle7 y oo hy
        · unfold IterB at hi7 ⊢; rw [Heap.set_ne hrt]; exact hi7
        · intro y hy; simp only [List.mem_append, List.mem_singleton] at hy
          rcases hy with hy | rfl
          · exact g3 y hy
          · exact List.mem_of_getElem? hbj
        · intro j2 p2 x2 b2 e1 e2
          simp only [List.mem_append, List.mem_singleton]
          rw [g4 j2 p2 x2 b2 e1 e2]
          have : b2 = b' ↔ (p2, x2) = ((pn : Int), x) := by
            constructor
            · rintro rfl
              have : j2 = j := ((List.getElem?_inj (List.getElem?_eq_some_iff.1 e2).1 hes2.2.2.1).1 (e2.trans hbj.symm))
              subst this; rw [e1] at hj; cases hj; rfl
            · intro e
              have h1 : (pl.map (·.1))[j2]? = some (pn : Int) := by rw [List.getElem?_map, e1]; cases e; rfl
              have h2 : (pl.map (·.1))[j]? = some (pn : Int) := by rw [List.getElem?_map, hj]; rfl
              have : j2 = j := ((List.getElem?_inj (List.getElem?_eq_some_iff.1 h1).1 hpn).1 (h1.trans h2.symm))
              subst this; rw [e2] at hbj; cases hbj; rfl
          rw [this]
        · intro e he; simp only [List.mem_append, List.mem_singleton] at he
          rcases he with he | rfl
          · exact g5 e he
          · exact hpx
        · have : arr (fun p => (cntE (W.take i) tag p : Int) + if (look (dl ++ [((pn : Int), x)]) p).isSome then 1 else 0) = arr (fun q => if q = (pn : Int) then (((cntE (W.take i) tag (pn : Int)) + 1 : Nat) : Int) else (cntE (W.take i) tag q : Int) + if (look dl q).isSome then 1 else 0) := by
            apply arr_congr; intro q _
            rw [look_snoc hdl]
            by_cases e : (q : Int) = pn
            · simp [e]
            · simp [e]
          rw [this]
          obtain ⟨x1, c, t, x2, x3⟩ := hc7; exact ⟨x1, c, t, by rw [Heap.set_ne hbcn]; exact x2, x3⟩
        · have : arr (fun p => strE (W.take i) tag p + (look (dl ++ [((pn : Int), x)]) p).getD 0) = arr (fun q => if q = (pn : Int) then strE (W.take i) tag (pn : Int) + x else strE (W.take i) tag q + (look dl q).getD 0) := by
            apply arr_congr; intro q _
            rw [look_snoc hdl]
            by_cases e : (q : Int) = pn
            · simp [e]
            · simp [e]
          rw [this]; exact ht8
  rintro env h3 ⟨hle3, hc3, ht3, rfl⟩
  have Ra3 := (ha.le hle3).rules
  have A1' : h3.cell (a.add 1) = some (.int .i64 need) := Ra3.1 1 (by simp)
  have Rc8 := hc3.rules.2.2
  rw [arr_len] at Rc8
  try simp (disch := first | omega | (simp only [PL]; omega)) only [PS, P1, P2, P3, P4, P5, P6, P7, P8, PA, PB, PC, Nat.reduceAdd, Nat.reduceSub, Nat.reduceMul, Nat.reduceLeDiff, Nat.reduceEqDiff, Nat.succ_ne_self, reduceCtorEq, Int.reduceToNat, Int.cast_ofNat_Int, Int.reduceEq, Int.reduceNe, Int.reduceLT, Int.reduceLE, Rc8]
  refine i_loop (fun p : Nat => [some (.pointer (some a)), some (.string (Cw.str tag)), none, some (.pointer (some ⟨bc, 0, none⟩)), some (.pointer (some ⟨bt, 0, none⟩)), none, none, none, none, some (.int .i64 (bestTo need (cntE W tag) (strE W tag) p)), none, none, none, none, none, none, none, none, none, none, some (.agg (arr fun p => (cntE W tag p : Int)).toArray), some (.int .i64 p), none, none, none]) (fun p h4 => p ≤ 8 ∧ h4 = h3) (fun p => 8 - p) 0 (by try simp only [Pe, and_true, true_and, and_self]; simp [bestTo]) ⟨by omega, rfl⟩ ?_
  rintro p h4 ⟨hp, rfl⟩
  try simp (disch := first | omega | (simp only [PL]; omega)) only [PS, P1, P2, P3, P4, P5, P6, P7, P8, PA, PB, PC, Nat.reduceAdd, Nat.reduceSub, Nat.reduceMul, Nat.reduceLeDiff, Nat.reduceEqDiff, Nat.succ_ne_self, reduceCtorEq, Int.reduceToNat, Int.cast_ofNat_Int, Int.reduceEq, Int.reduceNe, Int.reduceLT, Int.reduceLE]
  refine i_cond (fun c1 => ?_) (fun c1 => ?_)
  rotate_left
  · try simp (disch := first | omega | (simp only [PL]; omega)) only [PS, P1, P2, P3, P4, P5, P6, P7, P8, PA, PB, PC, Nat.reduceAdd, Nat.reduceSub, Nat.reduceMul, Nat.reduceLeDiff, Nat.reduceEqDiff, Nat.succ_ne_self, reduceCtorEq, Int.reduceToNat, Int.cast_ofNat_Int, Int.reduceEq, Int.reduceNe, Int.reduceLT, Int.reduceLE]
    have : p = 8 := by omega
    subst this
    have := hK h4 hle3
    rw [hatE] at this
    exact this
  have hp8 : p < 8 := by omega
  have hbr := bestTo_range need (cntE W tag) (strE W tag) p
  have hvx : (arr fun p => (cntE W tag p : Int)).toArray[p]? = some (.int .i64 (cntE W tag p)) := by
    rw [List.getElem?_toArray]; exact arr_get _ hp8
  try simp (disch := first | omega | (simp only [PL]; omega)) only [PS, P1, P2, P3, P4, P5, P6, P7, P8, PA, PB, PC, Nat.reduceAdd, Nat.reduceSub, Nat.reduceMul, Nat.reduceLeDiff, Nat.reduceEqDiff, Nat.succ_ne_self, reduceCtorEq, Int.reduceToNat, Int.cast_ofNat_Int, Int.reduceEq, Int.reduceNe, Int.reduceLT, Int.reduceLE, hvx, A1']
  have hbe : bestTo need (cntE W tag) (strE W tag) (p + 1) = if cntE W tag p < need then bestTo need (cntE W tag) (strE W tag) p else if bestTo need (cntE W tag) (strE W tag) p < 0 ∨ cntE W tag (bestTo need (cntE W tag) (strE W tag) p) < cntE W tag p ∨ (cntE W tag p = cntE W tag (bestTo need (cntE W tag) (strE W tag) p) ∧ strE W tag (bestTo need (cntE W tag) (strE W tag) p) < strE W tag p) then p else bestTo need (cntE W tag) (strE W tag) p := rfl
  generalize hbg : bestTo need (cntE W tag) (strE W tag) p = bb at *
  refine i_cond (fun c2 => ?_) (fun c2 => ?_)
  · try simp (disch := first | omega | (simp only [PL]; omega)) only [PS, P1, P2, P3, P4, P5, P6, P7, P8, PA, PB, PC, Nat.reduceAdd, Nat.reduceSub, Nat.reduceMul, Nat.reduceLeDiff, Nat.reduceEqDiff, Nat.succ_ne_self, reduceCtorEq, Int.reduceToNat, Int.cast_ofNat_Int, Int.reduceEq, Int.reduceNe, Int.reduceLT, Int.reduceLE]
    refine k_loop (p + 1) (by omega) ?_ ⟨by omega, rfl⟩
    try simp only [Pe, and_true, true_and, and_self]; rw [hbe, if_pos (by omega)]
  by_cases hb0 : bb < 0
  · try simp (disch := first | omega | (simp only [PL]; omega)) only [PS, P1, P2, P3, P4, P5, P6, P7, P8, PA, PB, PC, Nat.reduceAdd, Nat.reduceSub, Nat.reduceMul, Nat.reduceLeDiff, Nat.reduceEqDiff, Nat.succ_ne_self, reduceCtorEq, Int.reduceToNat, Int.cast_ofNat_Int, Int.reduceEq, Int.reduceNe, Int.reduceLT, Int.reduceLE, hb0]
    refine k_loop (p + 1) (by omega) ?_ ⟨by omega, rfl⟩
    try simp only [Pe, and_true, true_and, and_self]; rw [hbe, if_neg (by omega), if_pos (.inl hb0)]
  obtain ⟨bn, rfl⟩ : ∃ bn : Nat, bb = (bn : Int) := ⟨bb.toNat, by omega⟩
  have hbn : bn < 8 := by omega
  have Rcb := hc3.rules.1 bn (by rw [arr_len]; exact hbn)
  rw [arr_get _ hbn] at Rcb
  have Rtb := ht3.rules.1 bn (by rw [arr_len]; exact hbn)
  rw [arr_get _ hbn] at Rtb
  have Rtp := ht3.rules.1 p (by rw [arr_len]; exact hp8)
  rw [arr_get _ hp8] at Rtp
  try simp (disch := first | omega | (simp only [PL]; omega)) only [PS, P1, P2, P3, P4, P5, P6, P7, P8, PA, PB, PC, Nat.reduceAdd, Nat.reduceSub, Nat.reduceMul, Nat.reduceLeDiff, Nat.reduceEqDiff, Nat.succ_ne_self, reduceCtorEq, Int.reduceToNat, Int.cast_ofNat_Int, Int.reduceEq, Int.reduceNe, Int.reduceLT, Int.reduceLE, hb0, Rcb, Rtb, Rtp]
  refine i_cond (fun c3 => ?_) (fun c3 => ?_)
  · try simp (disch := first | omega | (simp only [PL]; omega)) only [PS, P1, P2, P3, P4, P5, P6, P7, P8, PA, PB, PC, Nat.reduceAdd, Nat.reduceSub, Nat.reduceMul, Nat.reduceLeDiff, Nat.reduceEqDiff, Nat.succ_ne_self, reduceCtorEq, Int.reduceToNat, Int.cast_ofNat_Int, Int.reduceEq, Int.reduceNe, Int.reduceLT, Int.reduceLE]
    refine k_loop (p + 1) (by omega) ?_ ⟨by omega, rfl⟩
    try simp only [Pe, and_true, true_and, and_self]; rw [hbe, if_neg (by omega), if_pos (by omega)]
  · try simp (disch := first | omega | (simp only [PL]; omega)) only [PS, P1, P2, P3, P4, P5, P6, P7, P8, PA, PB, PC, Nat.reduceAdd, Nat.reduceSub, Nat.reduceMul, Nat.reduceLeDiff, Nat.reduceEqDiff, Nat.succ_ne_self, reduceCtorEq, Int.reduceToNat, Int.cast_ofNat_Int, Int.reduceEq, Int.reduceNe, Int.reduceLT, Int.reduceLE]
    refine k_loop (p + 1) (by omega) ?_ ⟨by omega, rfl⟩
    try simp only [Pe, and_true, true_and, and_self]; rw [hbe, if_neg (by omega), if_neg (by omega)]
end Go.Cw
namespace Go.Cw
open Go

/-- an epoch's maps, while they are made -/
def EpW (g : Heap) (m : Nat) (E : Ep) : Prop := ∃ kv bs ck, MapB encKS mapV g m kv bs ck ∧ (∀ tag, look kv tag = none ↔ look E tag = none) ∧
  (∀ tag b, look kv tag = some b → b ≠ m ∧ ∃ pl bs ck, look E tag = some pl ∧ MapB encKI encKI g b pl bs ck) ∧ ∀ tag tag' b, look kv tag = some b → look kv tag' = some b → tag = tag'
theorem EpW.r {g : Heap} {m : Nat} {E : Ep} (h : EpW g m E) : EpR g m E := by
  obtain ⟨kv, bs, ck, h1, h2, h3, _⟩ := h
  exact ⟨kv, bs, ck, h1, h2, fun tag b hb => (h3 tag b hb).2⟩
theorem EpW.le {g g' : Heap} {m : Nat} {E : Ep} (h : EpW g m E) (hl : Heap.le g g') : EpW g' m E := by
  obtain ⟨kv, bs, ck, h1, h2, h3, h4⟩ := h
  exact ⟨kv, bs, ck, h1.le hl, h2, fun tag b hb => let ⟨n, pl, bs, ck, a, c⟩ := h3 tag b hb; ⟨n, pl, bs, ck, a, c.le hl⟩, h4⟩
theorem MapB.set_ne {κ ν : Type} {ek : κ → Value} {ev : ν → Value} {g : Heap} {m b : Nat} {o : Obj} {kv : List (κ × ν)} {bs : List Nat} {ck : Nat} (h : MapB ek ev g m kv bs ck) (e : m ≠ b) : MapB ek ev (g.set b o) m kv bs ck := by
  obtain ⟨es, h1, h2⟩ := h; exact ⟨es, by rw [Heap.set_ne e]; exact h1, h2⟩
theorem MapB.mem {κ ν : Type} {ek : κ → Value} {ev : ν → Value} {g : Heap} {m : Nat} {kv : List (κ × ν)} {bs : List Nat} {ck : Nat} (h : MapB ek ev g m kv bs ck) : g m ≠ none := by
  obtain ⟨es, h1, _⟩ := h; rw [h1]; simp
theorem objAt.set_ne {g : Heap} {a : Addr} {b : Nat} {o : Obj} {cs : List Value} (h : objAt g a cs) (e : a.block ≠ b) : objAt (g.set b o) a cs := by
  obtain ⟨x1, c, t, x2, x3⟩ := h; exact ⟨x1, c, t, by rw [Heap.set_ne e]; exact x2, x3⟩
theorem objAt.mem {g : Heap} {a : Addr} {cs : List Value} (h : objAt g a cs) : g a.block ≠ none := by
  obtain ⟨x1, c, t, x2, x3⟩ := h; rw [x2]; simp
theorem fr_set_new {h0 h : Heap} {b : Nat} {o : Obj} (hb : h0 b = none) : fr h0 (h.set b o) = (fr h0 h).set b o := by
  funext x
  simp only [fr, Heap.set]
  by_cases e : x = b
  · subst e; simp [hb]
  · simp [e]
theorem fr_fr {h0 h1 h2 : Heap} (hl : Heap.le h0 h1) : Heap.le (fr h1 h2) (fr h0 h2) := fr_anti (le_none hl)
theorem le_set_new {h0 h : Heap} {b : Nat} {o : Obj} (hl : Heap.le h0 h) (hb : h0 b = none) : Heap.le h0 (h.set b o) := by
  intro y oo hy
  have e : y ≠ b := by rintro rfl; rw [hb] at hy; cases hy
  rw [Heap.set_ne e]; exact hl y oo hy

theorem upd_same {κ ν : Type} [DecidableEq κ] {kv : List (κ × ν)} {k : κ} {v : ν} (h : look kv k = some v) : upd kv k v = kv := by
  induction kv with
  | nil => simp [look_nil] at h
  | cons p r ih =>
    rw [look_cons] at h
    simp only [upd]
    split
    · rename_i e; rw [if_pos e] at h; cases h; subst e; rfl
    · rename_i e; rw [if_neg e] at h; rw [ih h]
theorem upd_upd {κ ν : Type} [DecidableEq κ] (kv : List (κ × ν)) (k : κ) (v w : ν) : upd (upd kv k v) k w = upd kv k w := by
  induction kv with
  | nil => simp [upd]
  | cons p r ih =>
    simp only [upd]
    by_cases e : k = p.1
    · simp [e, upd]
    · simp [e, upd, ih]

/-- a new, empty map for a tag -/
theorem EpW.ins {g : Heap} {m b : Nat} {E : Ep} {o : Obj} {kv : List (List UInt8 × Nat)} {bs bs' : List Nat} {ck ck' : Nat} {tag : List UInt8} (hm : MapB encKS mapV g m kv bs ck) (hk : ∀ tag, look kv tag = none ↔ look E tag = none)
    (h3 : ∀ tag b, look kv tag = some b → b ≠ m ∧ ∃ pl bs ck, look E tag = some pl ∧ MapB encKI encKI g b pl bs ck) (h4 : ∀ tag tag' b, look kv tag = some b → look kv tag' = some b → tag = tag')
    (hb : MapB encKI encKI g b ([] : List (Int × Int)) [] 0) (hbm : b ≠ m) (hfresh : ∀ tag x, look kv tag = some x → x ≠ b) (hn : MapB encKS mapV (g.set m o) m (upd kv tag b) bs' ck') : EpW (g.set m o) m (upd E tag []) := by
  refine ⟨upd kv tag b, bs', ck', hn, fun t => ?_, fun t x hx => ?_, fun t t' x h1 h2 => ?_⟩
  · rw [look_upd, look_upd]; split <;> simp [hk]
  · rw [look_upd] at hx
    split at hx
    · rename_i e; cases hx; subst e
      exact ⟨hbm, [], [], 0, by rw [look_upd, if_pos rfl], hb.set_ne hbm⟩
    · rename_i e
      obtain ⟨n, pl, bs, ck, a, c⟩ := h3 t x hx
      exact ⟨n, pl, bs, ck, by rw [look_upd, if_neg e]; exact a, c.set_ne n⟩
  · rw [look_upd] at h1 h2
    split at h1 <;> split at h2
    · rename_i e1 e2; rw [e1, e2]
    · rename_i e1 e2; cases h1; exact absurd rfl (hfresh t' _ h2)
    · rename_i e1 e2; cases h2; exact absurd rfl (hfresh t _ h1)
    · exact h4 t t' x h1 h2
/-- a tag's map is written -/
theorem EpW.put {g : Heap} {m b : Nat} {E : Ep} {o : Obj} {kv : List (List UInt8 × Nat)} {bs bs' : List Nat} {ck ck' : Nat} {tag : List UInt8} {pl : List (Int × Int)} (hm : MapB encKS mapV g m kv bs ck) (hk : ∀ tag, look kv tag = none ↔ look E tag = none)
    (h3 : ∀ tag b, look kv tag = some b → b ≠ m ∧ ∃ pl bs ck, look E tag = some pl ∧ MapB encKI encKI g b pl bs ck) (h4 : ∀ tag tag' b, look kv tag = some b → look kv tag' = some b → tag = tag')
    (hb : look kv tag = some b) (hn : MapB encKI encKI (g.set b o) b pl bs' ck') : EpW (g.set b o) m (upd E tag pl) := by
  have hbm := (h3 tag b hb).1
  refine ⟨kv, bs, ck, hm.set_ne (Ne.symm hbm), fun t => ?_, fun t x hx => ?_, h4⟩
  · rw [look_upd]
    split
    · rename_i e; subst e; rw [hb]; simp
    · exact hk t
  · obtain ⟨n, pl', bs2, ck2, a, c⟩ := h3 t x hx
    refine ⟨n, ?_⟩
    by_cases e : t = tag
    · subst e
      rw [hb] at hx; cases hx
      exact ⟨pl, bs', ck', by rw [look_upd, if_pos rfl], hn⟩
    · have hne : x ≠ b := by rintro rfl; exact e (h4 t tag x hx hb)
      exact ⟨pl', bs2, ck2, by rw [look_upd, if_neg e]; exact a, c.set_ne hne⟩

def toldE (EL : List (List Si)) (tag : List UInt8) : Prop := ∃ l ∈ EL, toldIn l tag
instance (EL : List (List Si)) (tag : List UInt8) : Decidable (toldE EL tag) := by unfold toldE; infer_instance

/-- a track's own memory; 'W': what its lists of places hold; 'hole': a tag whose list is being made anew -/
structure TrG (g : Heap) (b : Nat) (window need : Nat) (EL : List (List Si)) (W : List UInt8 → Option (List Int)) (hole : Option (List UInt8)) (ev : Value) (mw : Nat) (wkv : List (List UInt8 × Value)) (bs : List Nat) (ck : Nat) (gi : Heap) (ems : List Nat) : Prop where
  obj : objAt g ⟨b, 0, none⟩ [.int .i64 window, .int .i64 need, ev, .map (some mw)]
  evs : SlB encM 1 g ev ems
  wm : MapB encKS id g mw wkv bs ck
  wnone : ∀ tag, look wkv tag = none → W tag = none
  wsome : ∀ tag v, look wkv tag = some v → some tag ≠ hole → ∃ l x, W tag = some l ∧ SlB encI 1 g v l ∧ blkOf v = some x ∧ x ≠ b ∧ x ≠ mw ∧ blkOf ev ≠ some x ∧ gi x = none
  inj : ∀ tag tag' v v', look wkv tag = some v → look wkv tag' = some v' → some tag ≠ hole → some tag' ≠ hole → blkOf v = blkOf v' → tag = tag'
  d1 : b ≠ mw
  d2 : blkOf ev ≠ some b ∧ blkOf ev ≠ some mw
  elen : ems.length = EL.length
  eps : ∀ i, i < EL.length → EpR gi (ems.getD i 0) (tellE (EL.getD i []))
  gile : Heap.le gi g
  gib : gi b = none
  gim : gi mw = none
  gie : ∀ x, blkOf ev = some x → gi x = none

theorem TrG.le {g g' : Heap} {b window need : Nat} {EL : List (List Si)} {W : List UInt8 → Option (List Int)} {hole : Option (List UInt8)} {ev : Value} {mw : Nat} {wkv : List (List UInt8 × Value)} {bs : List Nat} {ck : Nat} {gi : Heap} {ems : List Nat}
    (h : TrG g b window need EL W hole ev mw wkv bs ck gi ems) (hl : Heap.le g g') : TrG g' b window need EL W hole ev mw wkv bs ck gi ems :=
  ⟨objAt.le h.obj hl, h.evs.le hl, h.wm.le hl, h.wnone, fun t v hv hh => let ⟨l, x, a1, a2, a3⟩ := h.wsome t v hv hh; ⟨l, x, a1, a2.le hl, a3⟩, h.inj, h.d1, h.d2, h.elen, h.eps, h.gile.trans hl, h.gib, h.gim, h.gie⟩
theorem TrG.r {g : Heap} {b window need : Nat} {EL : List (List Si)} {W : List UInt8 → Option (List Int)} {hole : Option (List UInt8)} {ev : Value} {mw : Nat} {wkv : List (List UInt8 × Value)} {bs : List Nat} {ck : Nat} {gi : Heap} {ems : List Nat}
    (h : TrG g b window need EL W hole ev mw wkv bs ck gi ems) {hh : Heap} (hl : Heap.le g hh) : TrR hh ⟨b, 0, none⟩ window need EL :=
  ⟨ev, _, ems, objAt.le h.obj hl, (SlB.sl (enc := encM) (sz := 1) (fun _ => rfl) h.evs).le hl, h.elen, fun i hi => (h.eps i hi).le (h.gile.trans hl)⟩

/-- the list of a tag is laid into the map -/
theorem TrG.put {g : Heap} {b window need : Nat} {EL : List (List Si)} {W : List UInt8 → Option (List Int)} {hole : Option (List UInt8)} {ev : Value} {mw : Nat} {wkv : List (List UInt8 × Value)} {bs bs' : List Nat} {ck ck' : Nat} {gi : Heap} {ems : List Nat}
    (h : TrG g b window need EL W hole ev mw wkv bs ck gi ems) {tag : List UInt8} (hh : hole = none ∨ hole = some tag) {v : Value} {l : List Int} {x : Nat} (hv : SlB encI 1 g v l) (hx : blkOf v = some x) (x1 : x ≠ b) (x2 : x ≠ mw) (x3 : blkOf ev ≠ some x) (x4 : gi x = none)
    (x5 : ∀ t w, look wkv t = some w → t ≠ tag → blkOf w ≠ some x) {o : Obj} (hm : MapB encKS id (g.set mw o) mw (upd wkv tag v) bs' ck') :
    TrG (g.set mw o) b window need EL (fun t => if t = tag then some l else W t) none ev mw (upd wkv tag v) bs' ck' gi ems := by
  have hne : ∀ t, t ≠ tag → some t ≠ hole := by
    intro t ht e
    rcases hh with h0 | h0
    · rw [h0] at e; cases e
    · rw [h0] at e; cases e; exact ht rfl
  refine ⟨h.obj.set_ne h.d1, h.evs.same (fun y hy => Heap.set_ne (fun e => h.d2.2 (by rw [← e]; exact hy))), hm, fun t ht => ?_, fun t w hw _ => ?_, fun t t' w w' h1 h2 _ _ h3 => ?_, h.d1, h.d2, h.elen, h.eps, ?_, h.gib, h.gim, h.gie⟩
  · rw [look_upd] at ht
    split at ht
    · cases ht
    · rename_i e; simp only [e, if_false]; exact h.wnone t ht
  · rw [look_upd] at hw
    split at hw
    · rename_i e; cases hw
      exact ⟨l, x, by simp [e], hv.same (fun y hy => Heap.set_ne (fun e => x2 (by rw [hx] at hy; cases hy; exact e))), hx, x1, x2, x3, x4⟩
    · rename_i e
      obtain ⟨l', y, a1, a2, a3, a4, a5, a6⟩ := h.wsome t w hw (hne t e)
      exact ⟨l', y, by simp only [e, if_false]; exact a1, a2.same (fun z hz => Heap.set_ne (fun e2 => a5 (by rw [a3] at hz; cases hz; exact e2))), a3, a4, a5, a6⟩
  · rw [look_upd] at h1 h2
    split at h1 <;> split at h2
    · rename_i e1 e2; rw [e1, e2]
    · rename_i e1 e2; cases h1; rw [hx] at h3; exact absurd h3.symm (x5 t' w' h2 e2)
    · rename_i e1 e2; cases h2; rw [hx] at h3; exact absurd h3 (x5 t w h1 e1)
    · rename_i e1 e2; exact h.inj t t' w w' h1 h2 (hne t e1) (hne t' e2) h3
  · intro y oo hy
    have e : y ≠ mw := by rintro rfl; rw [h.gim] at hy; cases hy
    rw [Heap.set_ne e]; exact h.gile y oo hy
end Go.Cw
namespace Go.Cw
open Go

/-! one more block of one's own -/
def cell1 (r : Nat) (o : Obj) : Heap := fun x => if x = r then some o else none
theorem join_cell (r : Nat) (o : Obj) (G : Heap) : (∀ x, x ≠ r → join (cell1 r o) G x = G x) ∧ join (cell1 r o) G r = some o := by
  refine ⟨fun x hx => by simp [join, cell1, hx], by simp [join, cell1]⟩
theorem Step.cnew {g h G H H' : Heap} {r : Nat} {o : Obj} (a : Step g h G H) (hr : H r = none) (hle : Heap.le H H') (hi : H' r = some o) : Step g h (join (cell1 r o) G) H' ∧ G r = none := by
  refine ⟨⟨fun x y hx => ?_, fun x y h1 h2 => hle _ _ (a.frame x y h1 h2), fun x h1 h2 => ?_⟩, le_none a.le r hr⟩
  · by_cases e : x = r
    · subst e; rw [(join_cell _ o G).2] at hx; rw [hi]; exact hx
    · rw [(join_cell _ o G).1 x e] at hx; exact hle _ _ (a.le x y hx)
  · have e : x ≠ r := by
      rintro rfl
      cases hx : h x with
      | none => exact h1 hx
      | some y => have := a.frame x y hx h2; rw [hr] at this; cases this
    rw [(join_cell _ o G).1 x e]; exact a.fresh x h1 h2
theorem Step.cr {g h G H : Heap} {r : Nat} {o : Obj} (a : Step g h (join (cell1 r o) G) H) (hd : G r = none) : H r = some o ∧ Heap.le G H := by
  refine ⟨a.le _ _ (join_cell r o G).2, fun x y hx => ?_⟩
  have e : x ≠ r := by rintro rfl; rw [hd] at hx; cases hx
  exact a.le x y (by rw [(join_cell r o G).1 x e]; exact hx)
theorem Step.cdrop {g h G H : Heap} {r : Nat} {o : Obj} (a : Step g h (join (cell1 r o) G) H) (hd : G r = none) : Step g h G H := by
  refine ⟨(a.cr hd).2, a.frame, fun x h1 h2 => ?_⟩
  have := a.fresh x h1 h2
  by_cases e : x = r
  · rw [e]; exact hd
  · rwa [(join_cell r o G).1 x e] at this
theorem Step.cpart {g h G H G' H' : Heap} {r : Nat} {o : Obj} (a : Step g h (join (cell1 r o) G) H) (hd : G r = none) (s : Step G H G' H') : Step g h (join (cell1 r o) G') H' ∧ G' r = none := by
  have hc := (a.cr hd).1
  have hf : Heap.le (cell1 r o) H := by
    intro x y hx
    simp only [cell1] at hx
    split at hx
    · rename_i e; cases hx; subst e; exact hc
    · cases hx
  have hdj : disj (cell1 r o) G := by
    intro x hx
    simp only [cell1] at hx
    split at hx
    · rename_i e; subst e; exact hd
    · exact absurd rfl hx
  exact ⟨a.trans (s.part hf hdj), s.fresh r (by rw [hc]; simp) hd⟩
theorem Step.cset {g h G H : Heap} {r : Nat} {o : Obj} (a : Step g h (join (cell1 r o) G) H) (hd : G r = none) (o' : Obj) : Step g h (join (cell1 r o') G) (H.set r o') := by
  have := a.trans (Step.set a.le (b := r) (by rw [(join_cell r o G).2]; simp) o')
  have e : (join (cell1 r o) G).set r o' = join (cell1 r o') G := by
    funext x
    by_cases ex : x = r
    · subst ex; rw [Heap.set_eq, (join_cell _ o' G).2]
    · rw [Heap.set_ne ex, (join_cell r o G).1 x ex, (join_cell r o' G).1 x ex]
  rwa [e] at this

variable {g g' h : Heap} {b window need : Nat} {EL : List (List Si)} {W : List UInt8 → Option (List Int)} {hole : Option (List UInt8)} {ev : Value} {mw : Nat} {wkv : List (List UInt8 × Value)} {bs : List Nat} {ck : Nat} {gi gi' : Heap} {ems : List Nat}

/-- more maps of epochs, not yet an epoch's -/
theorem TrG.more (hT : TrG g b window need EL W hole ev mw wkv bs ck gi ems) (hl : Heap.le g g') (h1 : Heap.le gi gi') (h2 : Heap.le gi' g') (h3 : ∀ x, g x ≠ none → gi x = none → gi' x = none) :
    TrG g' b window need EL W hole ev mw wkv bs ck gi' ems := by
  have hT' := hT.le hl
  refine ⟨hT'.obj, hT'.evs, hT'.wm, hT.wnone, fun t v hv hh => ?_, hT.inj, hT.d1, hT.d2, hT.elen, fun i hi => (hT.eps i hi).le h1, h2, h3 _ hT.obj.mem hT.gib, h3 _ hT.wm.mem hT.gim, fun x hx => h3 _ (hT.evs.mem hx) (hT.gie x hx)⟩
  obtain ⟨l, x, a1, a2, a3, a4, a5, a6, a7⟩ := hT.wsome t v hv hh
  exact ⟨l, x, a1, a2.le hl, a3, a4, a5, a6, h3 _ (a2.mem a3) a7⟩

/-- an epoch is added -/
theorem TrG.appEv (hT : TrG g b window need EL W none ev mw wkv bs ck gi ems) (hg : Heap.le g h) {ev' : Value} {m : Nat} {l : List Si} (h1 : SlB encM 1 g' ev' (ems ++ [m]))
    (h2 : ∀ x, blkOf ev ≠ some x → blkOf ev' ≠ some x → g' x = g x) (h3 : ∀ x, blkOf ev' = some x → blkOf ev = some x ∨ h x = none) (hE : EpR gi m (tellE l)) {o : Obj}
    (ho : objAt (g'.set b o) ⟨b, 0, none⟩ [.int .i64 window, .int .i64 need, ev', .map (some mw)]) : TrG (g'.set b o) b window need (EL ++ [l]) W none ev' mw wkv bs ck gi (ems ++ [m]) := by
  have hh : ∀ x, g x ≠ none → blkOf ev ≠ some x → blkOf ev' ≠ some x := by
    intro x hx hn e
    rcases h3 x e with e2 | e2
    · exact hn e2
    · cases hgx : g x with
      | none => exact hx hgx
      | some o => rw [hg x o hgx] at e2; cases e2
  have hsm : ∀ x, g x ≠ none → blkOf ev ≠ some x → g' x = g x := fun x hx hn => h2 x hn (hh x hx hn)
  have hgb := hT.obj.mem
  have hgm := hT.wm.mem
  have hb' := hh b hgb hT.d2.1
  have hm' := hh mw hgm hT.d2.2
  refine ⟨ho, h1.same fun x hx => Heap.set_ne (fun e => hb' (by rw [← e]; exact hx)), ?_, hT.wnone, fun t v hv hh2 => ?_, hT.inj, hT.d1, ⟨hb', hm'⟩, by simp [hT.elen], fun i hi => ?_, ?_, hT.gib, hT.gim, fun x hx => ?_⟩
  · obtain ⟨es, q1, q2⟩ := hT.wm
    exact ⟨es, by rw [Heap.set_ne (Ne.symm hT.d1), hsm mw hgm hT.d2.2]; exact q1, q2⟩
  · obtain ⟨l', x, a1, a2, a3, a4, a5, a6, a7⟩ := hT.wsome t v hv hh2
    have hgx := a2.mem a3
    refine ⟨l', x, a1, a2.same fun y hy => ?_, a3, a4, a5, hh x hgx a6, a7⟩
    rw [a3] at hy; cases hy
    rw [Heap.set_ne a4]; exact hsm _ hgx a6
  · by_cases e : i < EL.length
    · have h5 : i < ems.length := by rw [hT.elen]; exact e
      have e1 : (ems ++ [m]).getD i 0 = ems.getD i 0 := by simp [List.getD_eq_getElem?_getD, List.getElem?_append_left h5]
      have e2 : (EL ++ [l]).getD i [] = EL.getD i [] := by simp [List.getD_eq_getElem?_getD, List.getElem?_append_left e]
      rw [e1, e2]; exact hT.eps i e
    · have : i = EL.length := by simp at hi; omega
      subst this
      have e1 : (ems ++ [m]).getD EL.length 0 = m := by simp [List.getD_eq_getElem?_getD, ← hT.elen]
      have e2 : (EL ++ [l]).getD EL.length [] = l := by simp [List.getD_eq_getElem?_getD]
      rw [e1, e2]; exact hE
  · intro x y hx
    have hne : x ≠ b := by rintro rfl; rw [hT.gib] at hx; cases hx
    have hgx := hT.gile x y hx
    have hev : blkOf ev ≠ some x := by intro e; rw [hT.gie x e] at hx; cases hx
    rw [Heap.set_ne hne, hsm x (by rw [hgx]; simp) hev]; exact hgx
  · rcases h3 x hx with e | e
    · exact hT.gie x e
    · cases hgx : gi x with
      | none => rfl
      | some o => rw [hg x o (hT.gile x o hgx)] at e; cases e

/-- a list that is made anew -/
def HoleV (g : Heap) (b mw : Nat) (wkv : List (List UInt8 × Value)) (ev : Value) (gi : Heap) (tag : List UInt8) (v : Value) (l : List Int) : Prop :=
  SlB encI 1 g v l ∧ ∃ x, blkOf v = some x ∧ x ≠ b ∧ x ≠ mw ∧ blkOf ev ≠ some x ∧ gi x = none ∧ ∀ t w, look wkv t = some w → t ≠ tag → blkOf w ≠ some x
theorem HoleV.le {tag : List UInt8} {v : Value} {l : List Int} (h : HoleV g b mw wkv ev gi tag v l) (hl : Heap.le g g') : HoleV g' b mw wkv ev gi tag v l := ⟨h.1.le hl, h.2⟩

theorem TrG.hole_of (hT : TrG g b window need EL W none ev mw wkv bs ck gi ems) {tag : List UInt8} {v : Value} (hv : look wkv tag = some v) :
    TrG g b window need EL W (some tag) ev mw wkv bs ck gi ems ∧ ∃ l, W tag = some l ∧ HoleV g b mw wkv ev gi tag v l := by
  refine ⟨⟨hT.obj, hT.evs, hT.wm, hT.wnone, fun t v hv _ => hT.wsome t v hv (by simp), fun t t' v v' h1 h2 _ _ h3 => hT.inj t t' v v' h1 h2 (by simp) (by simp) h3, hT.d1, hT.d2, hT.elen, hT.eps, hT.gile, hT.gib, hT.gim, hT.gie⟩, ?_⟩
  obtain ⟨l, x, a1, a2, a3, a4, a5, a6, a7⟩ := hT.wsome tag v hv (by simp)
  exact ⟨l, a1, a2, x, a3, a4, a5, a6, a7, fun t w hw hne e => hne (hT.inj t tag w v hw hv (by simp) (by simp) (by rw [e, a3]))⟩

theorem HoleV.app {tag : List UInt8} {v v' : Value} {l l2 : List Int} (hT : TrG g b window need EL W (some tag) ev mw wkv bs ck gi ems) (hH : HoleV g b mw wkv ev gi tag v l) (hg : Heap.le g h) (hne : l2 ≠ [])
    (h1 : SlB encI 1 g' v' l2) (h2 : ∀ x, blkOf v ≠ some x → blkOf v' ≠ some x → g' x = g x) (h3 : ∀ x, blkOf v' = some x → blkOf v = some x ∨ h x = none) :
    TrG g' b window need EL W (some tag) ev mw wkv bs ck gi ems ∧ HoleV g' b mw wkv ev gi tag v' l2 := by
  obtain ⟨k1, x, k2, k3, k4, k5, k6, k7⟩ := hH
  have hno : ∀ y, h y = none → g y = none := le_none hg
  have hh : ∀ y, g y ≠ none → x ≠ y → blkOf v' ≠ some y := by
    intro y hy hn e
    rcases h3 y e with e2 | e2
    · rw [k2] at e2; cases e2; exact hn rfl
    · exact hy (hno y e2)
  have hsm : ∀ y, g y ≠ none → x ≠ y → g' y = g y := fun y hy hn => h2 y (by rw [k2]; intro e; cases e; exact hn rfl) (hh y hy hn)
  have hgb := hT.obj.mem
  have hgm := hT.wm.mem
  refine ⟨⟨?_, hT.evs.same fun y hy => hsm y (hT.evs.mem hy) (by rintro rfl; exact k5 hy), ?_, hT.wnone, fun t w hw hn => ?_, hT.inj, hT.d1, hT.d2, hT.elen, hT.eps, ?_, hT.gib, hT.gim, hT.gie⟩, h1, ?_⟩
  · obtain ⟨q1, c, t, q2, q3⟩ := hT.obj
    exact ⟨q1, c, t, by rw [hsm b hgb k3]; exact q2, q3⟩
  · obtain ⟨es, q1, q2⟩ := hT.wm
    exact ⟨es, by rw [hsm mw hgm k4]; exact q1, q2⟩
  · obtain ⟨l', y, a1, a2, a3, a4⟩ := hT.wsome t w hw hn
    exact ⟨l', y, a1, a2.same fun z hz => hsm z (a2.mem hz) (by rintro rfl; exact k7 t w hw (by rintro rfl; exact hn rfl) hz), a3, a4⟩
  · intro y o hy
    have hgy := hT.gile y o hy
    rw [hsm y (by rw [hgy]; simp) (by rintro rfl; rw [k6] at hy; cases hy)]; exact hgy
  · have hx' : ∃ x', blkOf v' = some x' := by
      obtain ⟨a, cap, rfl, _, _, h5⟩ := h1
      rcases h5 with ⟨_, h6, _⟩ | ⟨y, c, t, rfl, _⟩
      · exact absurd h6 hne
      · exact ⟨y, rfl⟩
    obtain ⟨x', hx'⟩ := hx'
    refine ⟨x', hx', ?_⟩
    rcases h3 x' hx' with e | e
    · rw [k2] at e; cases e; exact ⟨k3, k4, k5, k6, k7⟩
    · have e' := hno x' e
      refine ⟨by rintro rfl; exact hgb e', by rintro rfl; exact hgm e', fun e2 => hT.evs.mem e2 e', ?_, fun t w hw hn e2 => ?_⟩
      · cases hgx : gi x' with
        | none => rfl
        | some o => rw [hT.gile x' o hgx] at e'; cases e'
      · obtain ⟨l', y, a1, a2, a3, a4⟩ := hT.wsome t w hw (by intro e3; cases e3; exact hn rfl)
        exact a2.mem e2 e'
end Go.Cw
namespace Go.Cw
open Go

def wl (window need : Nat) (EL : List (List Si)) (tag : List UInt8) : List Int := (List.range EL.length).map fun e => atE window need (EL.take (e + 1)) tag
theorem wl_snoc (window need : Nat) (EL : List (List Si)) (l : List Si) (tag : List UInt8) : wl window need EL tag ++ [atE window need (EL ++ [l]) tag] = wl window need (EL ++ [l]) tag := by
  unfold wl
  rw [List.length_append, List.length_singleton, List.range_succ, List.map_append]
  congr 1
  · refine List.map_congr_left fun e he => ?_
    rw [List.mem_range] at he
    rw [List.take_append_of_le_length (by omega)]
  · simp [List.take_of_length_le]
theorem bestTo_none {need : Nat} {cnt : Int → Nat} {st : Int → Int} (h : ∀ p, cnt p < need) (n : Nat) : bestTo need cnt st n = -1 := by
  induction n with
  | zero => rfl
  | succ n ih => simp only [bestTo]; rw [if_pos (h _)]; exact ih
theorem wl_none {window need : Nat} {EL : List (List Si)} {tag : List UInt8} (hn : 1 ≤ need) (h : ¬ toldE EL tag) : wl window need EL tag = List.replicate EL.length (-1) := by
  refine List.eq_replicate_iff.2 ⟨by simp [wl], fun x hx => ?_⟩
  obtain ⟨e, _, rfl⟩ := List.mem_map.1 hx
  refine bestTo_none (fun p => ?_) 8
  have : (((EL.take (e + 1)).drop ((EL.take (e + 1)).length - window)).filter fun l => decide (seen l tag p)) = [] := by
    rw [List.filter_eq_nil_iff]
    rintro l hl hd
    obtain ⟨s, hs, h1, _⟩ := of_decide_eq_true hd
    exact h ⟨l, List.mem_of_mem_take (List.mem_of_mem_drop hl), s, hs, h1⟩
  unfold cntE; rw [this]; exact hn
/-- a track in memory of its own -/
def TrO (g : Heap) (b window need : Nat) (EL : List (List Si)) : Prop := ∃ W ev mw wkv bs ck gi ems, TrG g b window need EL W none ev mw wkv bs ck gi ems ∧ ∀ tag, W tag = if toldE EL tag then some (wl window need EL tag) else none

theorem nodup_idx {α : Type} {l : List α} (hl : l.Nodup) {i j : Nat} {x : α} (h1 : l[i]? = some x) (h2 : l[j]? = some x) : i = j := by
  obtain ⟨a1, a2⟩ := List.getElem?_eq_some_iff.1 h1
  exact (List.getElem?_inj a1 hl).1 (h1.trans h2.symm)
def S29 (N : Num) : Spec := fun args h K => ∃ b v l g window need EL, args = [.pointer (some ⟨b, 0, none⟩), v] ∧ Sl Si.enc h v l ∧ TrO g b window need EL ∧ Heap.le g h ∧ TrOk window need EL ∧ EL.length < 100000 ∧ l.length ≤ 1000000 ∧
  ((∃ s ∈ l, s.bad) → ∀ h', Heap.le h h' → K (errV N 1) h') ∧ ((∀ s ∈ l, ¬ s.bad) → ∀ h' g', Step g h g' h' → TrO g' b window need (EL ++ [l]) → K .nilIface h')

def mapO (o : Option Nat) : Value := .map o
theorem eqv_mapo (h : Heap) (o : Option Nat) : o2V h (.eqv .map false) (.v (mapO o)) (.v (.map none)) = some (.v (.bool (decide (o = none)))) := by
  cases o <;> rfl
theorem MapB.lkpm {h : Heap} {m : Nat} {kv : List (List UInt8 × Nat)} {bs : List Nat} {ck : Nat} (hm : MapB encKS mapV h m kv bs ck) (k : List UInt8) : o2V h (.lkp .str (.map none)) (.v (.map (some m))) (.v (.string (str k))) = some (.v (mapO (look kv k))) := by
  have := (hm.rules .str).1 (.map none) k
  rw [show (Value.string (str k)) = encKS k from rfl, this]
  cases look kv k <;> rfl
theorem MapB.lkpi {h : Heap} {m : Nat} {kv : List (Int × Int)} {bs : List Nat} {ck : Nat} (hm : MapB encKI encKI h m kv bs ck) (k : Int) : o2V h (.lkp .int (.int .i64 0)) (.v (.map (some m))) (.v (.int .i64 k)) = some (.v (.int .i64 ((look kv k).getD 0))) := by
  have := (hm.rules .int).1 (.int .i64 0) k
  rw [show (Value.int .i64 k) = encKI k from rfl, this]
  cases look kv k <;> rfl
theorem MapB.lkps {h : Heap} {m : Nat} {kv : List (List UInt8 × Value)} {bs : List Nat} {ck : Nat} (hm : MapB encKS id h m kv bs ck) (k : List UInt8) : o2V h (.lkp .str (.slice none 0 0)) (.v (.map (some m))) (.v (.string (str k))) = some (.v ((look kv k).getD (.slice none 0 0))) := by
  have := (hm.rules .str).1 (.slice none 0 0) k
  rw [show (Value.string (str k)) = encKS k from rfl, this]
  cases look kv k <;> rfl
theorem eqv_slB {h : Heap} {v : Value} {l : List Int} {g : Heap} (hs : SlB encI 1 g v l) {x : Nat} (hx : blkOf v = some x) : o2V h (.eqv .slice false) (.v v) (.v (.slice none 0 0)) = some (.v (.bool false)) := by
  obtain ⟨a, cap, rfl, _⟩ := hs
  cases a with
  | none => cases hx
  | some a => rfl
theorem eqv_sl0 {h : Heap} : o2V h (.eqv .slice false) (.v (.slice none 0 0)) (.v (.slice none 0 0)) = some (.v (.bool true)) := rfl
theorem addS_eq (E : Ep) (s : Si) : addS E s = upd (upd E s.tag ((look E s.tag).getD [])) s.tag (upd ((look E s.tag).getD []) s.place ((look ((look E s.tag).getD []) s.place).getD 0 + s.strength)) := by rw [upd_upd]; rfl

theorem F29_ok {N : Num} {Γ : Ctx} [GoodC Γ] (H60 : Sat S60 (Γ 60)) : Sat (S29 N) (SF N Γ F29) := by
  rintro _ h K ⟨b, v, l, g, window, need, EL, rfl, hs, hT, hg, hok, hlen, hll, hK1, hK2⟩
  refine i_fun rfl ?_
  simp only [F29, env0, List.map, List.length, List.replicate, List.cons_append, List.nil_append, Nat.reduceSub, Nat.reduceAdd]
  try simp (disch := first | omega | (simp only [PL]; omega)) only [PS, P1, P2, P3, P4, P5, P6, P7, P8, PA, PB, PC, Nat.reduceAdd, Nat.reduceSub, Nat.reduceMul, Nat.reduceLeDiff, Nat.reduceEqDiff, Nat.succ_ne_self, reduceCtorEq, Int.reduceToNat, Int.cast_ofNat_Int, Int.reduceEq, Int.reduceNe, Int.reduceLT, Int.reduceLE]
  refine i_mnew (ek := encKS) (ev := mapV) fun m h1 hm0 hle1 hmE => ?_
  have R1 := (hs.le hle1).rules 4 Si.enc_len default
  try simp (disch := first | omega | (simp only [PL]; omega)) only [PS, P1, P2, P3, P4, P5, P6, P7, P8, PA, PB, PC, Nat.reduceAdd, Nat.reduceSub, Nat.reduceMul, Nat.reduceLeDiff, Nat.reduceEqDiff, Nat.succ_ne_self, reduceCtorEq, Int.reduceToNat, Int.cast_ofNat_Int, Int.reduceEq, Int.reduceNe, Int.reduceLT, Int.reduceLE, R1]
  -- the epoch's maps are made
  refine i_meet_blk (fun env h2 => Heap.le h h2 ∧ EpW (fr h h2) m (tellE l) ∧ (∀ s ∈ l, ¬ s.bad) ∧ env = [some (.pointer (some ⟨b, 0, none⟩)), none, none, some (.map (some m)), none, none, none, none, none, none, none, none, none, none, none, none, none, none, none, none, none, none, none, none, none, none, none, none, none, none, none, none, none, none, none, none, none, none, none, none, none, none, none, none, none]) ?_ ?_
  rotate_left
  · refine i_loop (fun i : Nat => [some (.pointer (some ⟨b, 0, none⟩)), none, none, some (.map (some m)), none, none, none, none, none, some v, some (.int .i64 l.length), some (.int .i64 i), none, none, none, none, none, none, none, none, none, none, none, none, none, none, none, none, none, none, none, none, none, none, none, none, none, none, none, none, none, none, none, none, none]) (fun i h2 => i ≤ l.length ∧ Heap.le h h2 ∧ EpW (fr h h2) m (tellE (l.take i)) ∧ ∀ s ∈ l.take i, ¬ s.bad) (fun i => l.length - i) 0 (by try simp only [Pe, and_true, true_and, and_self]; rfl)
      ⟨by omega, hle1, ⟨[], [], 0, hmE, by simp [look_nil, tellE], by simp [look_nil], by simp [look_nil]⟩, by simp⟩ ?_
    rintro i h2 ⟨hi, hle2, hE, hgood⟩
    have R2 := (hs.le hle2).rules 4 Si.enc_len default
    try simp (disch := first | omega | (simp only [PL]; omega)) only [PS, P1, P2, P3, P4, P5, P6, P7, P8, PA, PB, PC, Nat.reduceAdd, Nat.reduceSub, Nat.reduceMul, Nat.reduceLeDiff, Nat.reduceEqDiff, Nat.succ_ne_self, reduceCtorEq, Int.reduceToNat, Int.cast_ofNat_Int, Int.reduceEq, Int.reduceNe, Int.reduceLT, Int.reduceLE]
    refine i_cond (fun c1 => ?_) (fun c1 => ?_)
    rotate_left
    · try simp (disch := first | omega | (simp only [PL]; omega)) only [PS, P1, P2, P3, P4, P5, P6, P7, P8, PA, PB, PC, Nat.reduceAdd, Nat.reduceSub, Nat.reduceMul, Nat.reduceLeDiff, Nat.reduceEqDiff, Nat.succ_ne_self, reduceCtorEq, Int.reduceToNat, Int.cast_ofNat_Int, Int.reduceEq, Int.reduceNe, Int.reduceLT, Int.reduceLE]
      have : i = l.length := by omega
      subst this
      rw [List.take_length] at hE hgood
      exact k_meet _ (by try simp only [Pe, and_true, true_and, and_self]) ⟨hle2, hE, hgood, rfl⟩
    have hi2 : i < l.length := by omega
    have htk := take_succ_d default hi2 (l := l)
    try simp (disch := first | omega | (simp only [PL]; omega)) only [PS, P1, P2, P3, P4, P5, P6, P7, P8, PA, PB, PC, Nat.reduceAdd, Nat.reduceSub, Nat.reduceMul, Nat.reduceLeDiff, Nat.reduceEqDiff, Nat.succ_ne_self, reduceCtorEq, Int.reduceToNat, Int.cast_ofNat_Int, Int.reduceEq, Int.reduceNe, Int.reduceLT, Int.reduceLE, R2, Si.enc]
    refine i_cond (fun c2 => ?_) (fun c2 => ?_)
    · try simp (disch := first | omega | (simp only [PL]; omega)) only [PS, P1, P2, P3, P4, P5, P6, P7, P8, PA, PB, PC, Nat.reduceAdd, Nat.reduceSub, Nat.reduceMul, Nat.reduceLeDiff, Nat.reduceEqDiff, Nat.succ_ne_self, reduceCtorEq, Int.reduceToNat, Int.cast_ofNat_Int, Int.reduceEq, Int.reduceNe, Int.reduceLT, Int.reduceLE]
      exact hK1 ⟨_, getD_mem default hi2, by simp only [Si.bad]; omega⟩ h2 hle2
    have hsg : ¬ (l.getD i default).bad := by simp only [Si.bad]; omega
    have hgood' : ∀ s ∈ l.take (i + 1), ¬ s.bad := by
      intro s hs; rw [htk, List.mem_append, List.mem_singleton] at hs
      rcases hs with hs | rfl
      · exact hgood s hs
      · exact hsg
    have hsp := tellE_spec (l.take i)
    have hsum := fun p => sumS_bound hgood (l.getD i default).tag p
    have hti : (l.take i).length ≤ 1000000 := by rw [List.length_take]; omega
    have hE1 : tellE (l.take (i + 1)) = upd (upd (tellE (l.take i)) (l.getD i default).tag ((look (tellE (l.take i)) (l.getD i default).tag).getD [])) (l.getD i default).tag (upd ((look (tellE (l.take i)) (l.getD i default).tag).getD []) (l.getD i default).place ((look ((look (tellE (l.take i)) (l.getD i default).tag).getD []) (l.getD i default).place).getD 0 + (l.getD i default).strength)) := by
      rw [htk, tellE_snoc, addS_eq]
    generalize hx : l.getD i default = x at *
    generalize hEg : tellE (l.take i) = E at *
    obtain ⟨kv, kbs, kck, e1, e2, e3, e4⟩ := hE
    have Rk1 := (e1.le (fr_le h h2)).lkpm x.tag
    try simp (disch := first | omega | (simp only [PL]; omega)) only [PS, P1, P2, P3, P4, P5, P6, P7, P8, PA, PB, PC, Nat.reduceAdd, Nat.reduceSub, Nat.reduceMul, Nat.reduceLeDiff, Nat.reduceEqDiff, Nat.succ_ne_self, reduceCtorEq, Int.reduceToNat, Int.cast_ofNat_Int, Int.reduceEq, Int.reduceNe, Int.reduceLT, Int.reduceLE, Rk1, eqv_mapo]
    -- a tag's map, new or not
    refine i_meet_cond (fun env h3 => Heap.le h h3 ∧ EpW (fr h h3) m (upd E x.tag ((look E x.tag).getD [])) ∧ env = [some (.pointer (some ⟨b, 0, none⟩)), none, none, some (.map (some m)), some (.agg x.enc.toArray), none, none, none, none, some v, some (.int .i64 l.length), some (.int .i64 i), none, none, none, none, none, none, none, none, none, none, none, none, none, none, none, none, none, none, none, none, none, none, none, none, none, none, none, none, none, none, none, none, none]) ?_ ?_
    · rintro env h3 ⟨hle3, hE3, rfl⟩
      obtain ⟨kv3, kbs3, kck3, f1, f2, f3, f4⟩ := hE3
      have hlk : ∃ bb, look kv3 x.tag = some bb := by
        cases hh : look kv3 x.tag with
        | some bb => exact ⟨bb, rfl⟩
        | none => have := (f2 x.tag).1 hh; rw [look_upd, if_pos rfl] at this; cases this
      obtain ⟨bb, hbb⟩ := hlk
      obtain ⟨hbm, pl, pbs, pck, p1, p2⟩ := f3 x.tag bb hbb
      rw [look_upd, if_pos rfl] at p1
      have hpl : pl = (look E x.tag).getD [] := by cases p1; rfl
      have Rk3 := (f1.le (fr_le h h3)).lkpm x.tag
      rw [hbb] at Rk3
      simp only [mapO] at Rk3
      have Rp3 := (p2.le (fr_le h h3)).lkpi x.place
      have hbd : 0 ≤ (look pl x.place).getD 0 ∧ (look pl x.place).getD 0 ≤ 255000000 := by
        rw [hpl]
        cases hh : look E x.tag with
        | none => simp [look_nil]
        | some pl' =>
          simp only [Option.getD_some]
          have := (hsp.2.2 x.tag pl' hh).2 x.place
          rw [this]
          have := hsum x.place
          split <;> simp <;> omega
      have hxs : 0 ≤ x.strength ∧ x.strength ≤ 255 := by simp only [Si.bad] at hsg; omega
      have hw : IntKind.i64.wrap ((look pl x.place).getD 0 + x.strength) = (look pl x.place).getD 0 + x.strength := w64 (by omega) (by omega)
      try simp (disch := first | omega | (simp only [PL]; omega)) only [PS, P1, P2, P3, P4, P5, P6, P7, P8, PA, PB, PC, Nat.reduceAdd, Nat.reduceSub, Nat.reduceMul, Nat.reduceLeDiff, Nat.reduceEqDiff, Nat.succ_ne_self, reduceCtorEq, Int.reduceToNat, Int.cast_ofNat_Int, Int.reduceEq, Int.reduceNe, Int.reduceLT, Int.reduceLE, Rk3, Rp3, hw, Si.enc]
      have hbb0 : h bb = none := by
        cases hh : h bb with
        | none => rfl
        | some o => exact absurd (by simp [fr, hh]) p2.mem
      refine i_mupd (kb := .int) (ek := encKI) (ev := encKI) (p2.le (fr_le h h3)) (Heap.le.refl h3) x.place ((look pl x.place).getD 0 + x.strength) fun o bs' ck' q1 q2 _ => ?_
      try simp (disch := first | omega | (simp only [PL]; omega)) only [PS, P1, P2, P3, P4, P5, P6, P7, P8, PA, PB, PC, Nat.reduceAdd, Nat.reduceSub, Nat.reduceMul, Nat.reduceLeDiff, Nat.reduceEqDiff, Nat.succ_ne_self, reduceCtorEq, Int.reduceToNat, Int.cast_ofNat_Int, Int.reduceEq, Int.reduceNe, Int.reduceLT, Int.reduceLE]
      refine k_loop (i + 1) (by omega) (by try simp only [Pe, and_true, true_and, and_self]) ⟨by omega, le_set_new hle3 hbb0, ?_, hgood'⟩
      rw [fr_set_new hbb0, hE1, ← hpl]
      rw [← hpl] at f2 f3
      have q1' : MapB encKI encKI ((fr h h3).set bb o) bb (upd pl x.place ((look pl x.place).getD 0 + x.strength)) bs' ck' := by
        obtain ⟨es, a1, a2⟩ := q1
        rw [Heap.set_eq] at a1
        exact ⟨es, by rw [Heap.set_eq]; exact a1, a2⟩
      exact EpW.put f1 f2 f3 f4 hbb q1'
    · refine i_cond (fun c3 => ?_) (fun c3 => ?_)
      · try simp (disch := first | omega | (simp only [PL]; omega)) only [PS, P1, P2, P3, P4, P5, P6, P7, P8, PA, PB, PC, Nat.reduceAdd, Nat.reduceSub, Nat.reduceMul, Nat.reduceLeDiff, Nat.reduceEqDiff, Nat.succ_ne_self, reduceCtorEq, Int.reduceToNat, Int.cast_ofNat_Int, Int.reduceEq, Int.reduceNe, Int.reduceLT, Int.reduceLE, Si.enc]
        refine i_mnew (ek := encKI) (ev := encKI) fun mb h3 hb0 hle3 hbM => ?_
        try simp (disch := first | omega | (simp only [PL]; omega)) only [PS, P1, P2, P3, P4, P5, P6, P7, P8, PA, PB, PC, Nat.reduceAdd, Nat.reduceSub, Nat.reduceMul, Nat.reduceLeDiff, Nat.reduceEqDiff, Nat.succ_ne_self, reduceCtorEq, Int.reduceToNat, Int.cast_ofNat_Int, Int.reduceEq, Int.reduceNe, Int.reduceLT, Int.reduceLE]
        have hm0' : h m = none := hm0
        have e1' : MapB encKS mapV (fr h h3) m kv kbs kck := e1.le (fr_mono hle3)
        have hbM' : MapB encKI encKI (fr h h3) mb ([] : List (Int × Int)) [] 0 := hbM.le (fr_fr hle2)
        have hmbm : mb ≠ m := by rintro rfl; exact (e1.le (fr_le h h2)).mem hb0
        refine i_mupd (kb := .str) (ek := encKS) (ev := mapV) (e1'.le (fr_le h h3)) (Heap.le.refl h3) x.tag mb fun o bs' ck' q1 q2 _ => ?_
        try simp (disch := first | omega | (simp only [PL]; omega)) only [PS, P1, P2, P3, P4, P5, P6, P7, P8, PA, PB, PC, Nat.reduceAdd, Nat.reduceSub, Nat.reduceMul, Nat.reduceLeDiff, Nat.reduceEqDiff, Nat.succ_ne_self, reduceCtorEq, Int.reduceToNat, Int.cast_ofNat_Int, Int.reduceEq, Int.reduceNe, Int.reduceLT, Int.reduceLE]
        refine k_meet _ (by try simp only [Pe, and_true, true_and, and_self]) ⟨le_set_new (hle2.trans hle3) hm0, ?_, rfl⟩
        rw [fr_set_new hm0, ((e2 x.tag).1 c3)]
        have q1' : MapB encKS mapV ((fr h h3).set m o) m (upd kv x.tag mb) bs' ck' := by
          obtain ⟨es, a1, a2⟩ := q1
          rw [Heap.set_eq] at a1
          exact ⟨es, by rw [Heap.set_eq]; exact a1, a2⟩
        refine EpW.ins e1' e2 (fun t y hy => ?_) e4 hbM' hmbm (fun t y hy => ?_) q1'
        · obtain ⟨n, pl, bs, ck, a, c⟩ := e3 t y hy
          exact ⟨n, pl, bs, ck, a, c.le (fr_mono hle3)⟩
        · rintro rfl
          obtain ⟨n, pl, bs, ck, a, c⟩ := e3 t y hy
          exact (c.le (fr_le h h2)).mem hb0
      · try simp (disch := first | omega | (simp only [PL]; omega)) only [PS, P1, P2, P3, P4, P5, P6, P7, P8, PA, PB, PC, Nat.reduceAdd, Nat.reduceSub, Nat.reduceMul, Nat.reduceLeDiff, Nat.reduceEqDiff, Nat.succ_ne_self, reduceCtorEq, Int.reduceToNat, Int.cast_ofNat_Int, Int.reduceEq, Int.reduceNe, Int.reduceLT, Int.reduceLE]
        refine k_meet _ (by try simp only [Pe, and_true, true_and, and_self]; rfl) ⟨hle2, ?_, rfl⟩
        cases hh : look E x.tag with
        | none => exact absurd ((e2 x.tag).2 hh) c3
        | some pl =>
          simp only [Option.getD_some]
          rw [upd_same hh]
          exact ⟨kv, kbs, kck, e1, e2, e3, e4⟩
  · rintro env h2 ⟨hle2, hE, hgood, rfl⟩
    obtain ⟨W, ev, mw, wkv, bs, ck, gi, ems, hT, hW⟩ := hT
    have Ro := (objAt.le hT.obj (hg.trans hle2)).rules
    have A2 : h2.cell ((⟨b, 0, none⟩ : Addr).add 2) = some ev := Ro.1 2 (by simp)
    have Sev : SlB encM 1 h2 ev ems := hT.evs.le (hg.trans hle2)
    have O1 := Sev.one
    try simp (disch := first | omega | (simp only [PL]; omega)) only [PS, P1, P2, P3, P4, P5, P6, P7, P8, PA, PB, PC, Nat.reduceAdd, Nat.reduceSub, Nat.reduceMul, Nat.reduceLeDiff, Nat.reduceEqDiff, Nat.succ_ne_self, reduceCtorEq, Int.reduceToNat, Int.cast_ofNat_Int, Int.reduceEq, Int.reduceNe, Int.reduceLT, Int.reduceLE, A2, O1.1, O1.2]
    refine i_bslB encM 1 (fun _ => rfl) [m] rfl rfl (by simp [maxLen]) fun x1 b1 h3 hle3 hb1 hx1 hS1 => ?_
    have O2 := hS1.one
    try simp (disch := first | omega | (simp only [PL]; omega)) only [PS, P1, P2, P3, P4, P5, P6, P7, P8, PA, PB, PC, Nat.reduceAdd, Nat.reduceSub, Nat.reduceMul, Nat.reduceLeDiff, Nat.reduceEqDiff, Nat.succ_ne_self, reduceCtorEq, Int.reduceToNat, Int.cast_ofNat_Int, Int.reduceEq, Int.reduceNe, Int.reduceLT, Int.reduceLE, O2.1, O2.2]
    have hfr : ∀ x, g x ≠ none → gi x = none → join gi (fr h h2) x = none := by
      intro x hx hgx
      cases hg2 : g x with
      | none => exact absurd hg2 hx
      | some o => exact join_none hgx (fr_none (hg x o hg2))
    have St1 := Step.alloc hg hle2
    have hT1 : TrG (join g (fr h h2)) b window need EL W none ev mw wkv bs ck (join gi (fr h h2)) ems := by
      refine hT.more (join_l _ _) (join_l _ _) (fun x o hx => ?_) hfr
      cases hgx : gi x with
      | some o2 => rw [join_l gi _ x o2 hgx] at hx; rw [join_l g _ x o2 (hT.gile x o2 hgx)]; exact hx
      | none =>
        cases hg2 : g x with
        | some o2 => rw [hfr x (by rw [hg2]; simp) hgx] at hx; cases hx
        | none => simp only [join, hgx, hg2] at hx ⊢; exact hx
    have hg3 := St1.le.trans hle3
    refine i_appB (enc := encM) (sz := 1) (g := join g (fr h h2)) (l := ems) (l' := [m]) (fun _ => rfl) (by simp [encM, mapV, one]) hT1.evs hg3 (SlB.sl (enc := encM) (sz := 1) (fun _ => rfl) (hS1.le (fr_le _ _))) (by have := hT.elen; simp; omega) fun ev' h4 g4 hS4 St2 e1 e2 e3 => ?_
    have hob4 : objAt g4 ⟨b, 0, none⟩ [.int .i64 window, .int .i64 need, ev, .map (some mw)] := by
      obtain ⟨q1, c, t, q2, q3⟩ := hT1.obj
      refine ⟨q1, c, t, ?_, q3⟩
      have hb' : blkOf ev' ≠ some b := by
        intro e
        rcases e2 b e with h6 | h6
        · exact hT1.d2.1 h6
        · exact hT1.obj.mem (le_none hg3 b h6)
      rw [show (⟨b, 0, none⟩ : Addr).block = b from rfl, e1 b hT1.d2.1 hb']; exact q2
    have O4 := hS4.one
    try simp (disch := first | omega | (simp only [PL]; omega)) only [PS, P1, P2, P3, P4, P5, P6, P7, P8, PA, PB, PC, Nat.reduceAdd, Nat.reduceSub, Nat.reduceMul, Nat.reduceLeDiff, Nat.reduceEqDiff, Nat.succ_ne_self, reduceCtorEq, Int.reduceToNat, Int.cast_ofNat_Int, Int.reduceEq, Int.reduceNe, Int.reduceLT, Int.reduceLE]
    refine i_st (objAt.le hob4 St2.le) 2 1 (by rw [O4.2]; rfl) (by rw [O4.2]; simp [O4.1]) (by omega) (by simp) fun o k1 k2 => ?_
    have hT5 := hT1.appEv hg3 hS4 e1 e2 (hE.r.le (join_r (hT.gile.trans (hg.trans hle2)) (fr_le _ _))) (o := o) (by
      obtain ⟨q1, c, t, q2, q3⟩ := hob4
      have := k1 g4 (by rw [q2]; exact (St2.le _ _ q2).symm)
      rw [O4.2] at this; simpa using this)
    have St5 : Step g h (g4.set b o) (h4.set b o) := (St1.trans ((Step.more St1.le hle3).trans St2)).trans (Step.set St2.le hob4.mem o)
    obtain ⟨ekv, ebs, eck, n1, n2, n3⟩ := hE.r
    have n1 := n1.le (join_r (hT.gile.trans (hg.trans hle2)) (fr_le h h2))
    have nb : ebs.length = ekv.length := by obtain ⟨_, _, q⟩ := n1; exact q.2.1
    have nd : ebs.Nodup := by obtain ⟨_, _, q⟩ := n1; exact q.2.2.1
    generalize join gi (fr h h2) = gi5 at *
    generalize ems ++ [m] = ems5 at *
    generalize hg5 : g4.set b o = g5 at *
    generalize hh5 : h4.set b o = h5 at *
    clear k1 k2 hob4 e1 e2 e3 hS4 hg3 St2 hT1 hfr St1 hS1 O1 O2 O4 A2 Ro Sev hE hle3 hg5 hh5 hx1 hb1
    try simp (disch := first | omega | (simp only [PL]; omega)) only [PS, P1, P2, P3, P4, P5, P6, P7, P8, PA, PB, PC, Nat.reduceAdd, Nat.reduceSub, Nat.reduceMul, Nat.reduceLeDiff, Nat.reduceEqDiff, Nat.succ_ne_self, reduceCtorEq, Int.reduceToNat, Int.cast_ofNat_Int, Int.reduceEq, Int.reduceNe, Int.reduceLT, Int.reduceLE]
    have hm5 : ∃ es, h5 m = some (.map es eck) := by obtain ⟨es, q, _⟩ := n1; exact ⟨es, (hT5.gile.trans St5.le) _ _ q⟩
    obtain ⟨es5, hes5⟩ := hm5
    refine i_rng hes5 fun r h6 hr hle6 hit => ?_
    obtain ⟨St6, hgr⟩ := St5.cnew hr hle6 (fr_le _ _ _ _ hit)
    try simp (disch := first | omega | (simp only [PL]; omega)) only [PS, P1, P2, P3, P4, P5, P6, P7, P8, PA, PB, PC, Nat.reduceAdd, Nat.reduceSub, Nat.reduceMul, Nat.reduceLeDiff, Nat.reduceEqDiff, Nat.succ_ne_self, reduceCtorEq, Int.reduceToNat, Int.cast_ofNat_Int, Int.reduceEq, Int.reduceNe, Int.reduceLT, Int.reduceLE]
    refine i_meet_blk (fun env h7 => (∃ g7 W7 wkv7 bs7 ck7, Step g h g7 h7 ∧ TrG g7 b window need (EL ++ [l]) W7 none ev' mw wkv7 bs7 ck7 gi5 ems5 ∧ ∀ tag, W7 tag = if toldE EL tag then some (wl window need EL tag) else if toldIn l tag then some [] else none) ∧ env = [some (.pointer (some ⟨b, 0, none⟩)), none, none, none, none, none, none, none, none, none, none, none, none, none, none, none, none, none, none, none, none, none, none, none, none, none, none, none, none, none, none, none, none, none, none, none, none, none, none, none, none, none, none, none, none]) ?_ ?_
    rotate_left
    · refine i_loop (fun _ : List Nat => [some (.pointer (some ⟨b, 0, none⟩)), none, none, none, none, none, none, none, none, none, none, none, none, none, none, none, none, none, none, none, none, none, none, some (.pointer (some ⟨r, 0, none⟩)), none, none, none, none, none, none, none, none, none, none, none, none, none, none, none, none, none, none, none, none, none])
        (fun dn h7 => ∃ g7 W7 wkv7 bs7 ck7, Step g h (join (cell1 r (.mapIter (some m) eck dn.toArray eck)) g7) h7 ∧ g7 r = none ∧ TrG g7 b window need (EL ++ [l]) W7 none ev' mw wkv7 bs7 ck7 gi5 ems5 ∧ (∀ x ∈ dn, x ∈ ebs) ∧ (∀ tag, W7 tag = W tag ∨ (W tag = none ∧ W7 tag = some [] ∧ toldIn l tag)) ∧ (∀ (i : Nat) k v x, ekv[i]? = some (k, v) → ebs[i]? = some x → x ∈ dn → W7 k ≠ none))
        (fun dn => todo ebs dn) [] (by try simp only [Pe, and_true, true_and, and_self]) ⟨g5, W, wkv, bs, ck, St6, hgr, hT5, by simp, fun tag => .inl rfl, by intro i k v x _ _ h; simp at h⟩ ?_
      rintro dn h7 ⟨g7, W7, wkv7, bs7, ck7, St7, hg7, hT7, d1, d2, d3⟩
      obtain ⟨it7, hle7⟩ := St7.cr hg7
      have n7 := n1.le (hT7.gile.trans hle7)
      try simp (disch := first | omega | (simp only [PL]; omega)) only [PS, P1, P2, P3, P4, P5, P6, P7, P8, PA, PB, PC, Nat.reduceAdd, Nat.reduceSub, Nat.reduceMul, Nat.reduceLeDiff, Nat.reduceEqDiff, Nat.succ_ne_self, reduceCtorEq, Int.reduceToNat, Int.cast_ofNat_Int, Int.reduceEq, Int.reduceNe, Int.reduceLT, Int.reduceLE]
      refine i_nxt n7 it7 d1 ?_ ?_
      · intro hall
        try simp (disch := first | omega | (simp only [PL]; omega)) only [PS, P1, P2, P3, P4, P5, P6, P7, P8, PA, PB, PC, Nat.reduceAdd, Nat.reduceSub, Nat.reduceMul, Nat.reduceLeDiff, Nat.reduceEqDiff, Nat.succ_ne_self, reduceCtorEq, Int.reduceToNat, Int.cast_ofNat_Int, Int.reduceEq, Int.reduceNe, Int.reduceLT, Int.reduceLE]
        refine k_meet _ (by try simp only [Pe, and_true, true_and, and_self]) ⟨⟨g7, W7, wkv7, bs7, ck7, St7.cdrop hg7, hT7, fun tag => ?_⟩, rfl⟩
        have hWt := hW tag
        rcases d2 tag with h1 | ⟨h1, h2, h3⟩
        · rw [h1, hWt]
          by_cases e : toldE EL tag
          · rw [if_pos e, if_pos e]
          · rw [if_neg e, if_neg e]
            by_cases e2 : toldIn l tag
            · have h3 : look (tellE l) tag ≠ none := fun h4 => ((tellE_spec l).1 tag).1 h4 e2
              have h4 : look ekv tag ≠ none := fun h5 => h3 ((n2 tag).1 h5)
              cases h5 : look ekv tag with
              | none => exact absurd h5 h4
              | some v =>
                obtain ⟨j, hj, he⟩ := List.getElem_of_mem (look_mem h5)
                exact absurd (h1.trans (hWt.trans (if_neg e))) (d3 j tag v (ebs[j]'(by omega)) (by rw [List.getElem?_eq_getElem hj, he]) (by rw [List.getElem?_eq_getElem]) (hall _ (List.getElem_mem _)))
            · rw [if_neg e2]
        · have e : ¬ toldE EL tag := by intro e; rw [hWt, if_pos e] at h1; cases h1
          rw [h2, if_neg e, if_pos h3]
      · intro i x k v hi hx hnd
        have St8 := St7.cset hg7 (.mapIter (some m) eck (dn ++ [x]).toArray eck)
        obtain ⟨it8, hle8⟩ := St8.cr hg7
        generalize h7.set r (.mapIter (some m) eck (dn ++ [x]).toArray eck) = h8 at *
        try simp (disch := first | omega | (simp only [PL]; omega)) only [PS, P1, P2, P3, P4, P5, P6, P7, P8, PA, PB, PC, Nat.reduceAdd, Nat.reduceSub, Nat.reduceMul, Nat.reduceLeDiff, Nat.reduceEqDiff, Nat.succ_ne_self, reduceCtorEq, Int.reduceToNat, Int.cast_ofNat_Int, Int.reduceEq, Int.reduceNe, Int.reduceLT, Int.reduceLE]
        refine i_ent (n1.le (hT7.gile.trans hle8)) it8 hi hx ?_
        have Ro := (objAt.le hT7.obj hle8).rules
        have A3 : h8.cell ((⟨b, 0, none⟩ : Addr).add 3) = some (.map (some mw)) := Ro.1 3 (by simp)
        have Rk := (hT7.wm.le hle8).lkps k
        have hd8 : ∀ y ∈ dn ++ [x], y ∈ ebs := by
          intro y hy
          rw [List.mem_append, List.mem_singleton] at hy
          rcases hy with hy | rfl
          · exact d1 y hy
          · exact List.mem_of_getElem? hx
        have hkt : toldIn l k := by
          have h1 : look ekv k ≠ none := fun e => look_none e (List.mem_map.2 ⟨_, List.mem_of_getElem? hi, rfl⟩)
          have h2 : look (tellE l) k ≠ none := fun e => h1 ((n2 k).2 e)
          exact Classical.byContradiction fun h3 => h2 (((tellE_spec l).1 k).2 h3)
        have hmeas : todo ebs (dn ++ [x]) < todo ebs dn := todo_lt (List.mem_of_getElem? hx) hnd
        have hkey : ∀ (j : Nat) k' v' x', ekv[j]? = some (k', v') → ebs[j]? = some x' → x' ∈ dn ++ [x] → x' ∈ dn ∨ k' = k := by
          intro j k' v' x' a1 a2 a3
          rw [List.mem_append, List.mem_singleton] at a3
          refine a3.imp id ?_
          rintro rfl
          have := nodup_idx nd a2 hx
          subst this
          rw [hi] at a1; cases a1; rfl
        cases hlk : look wkv7 k with
        | some w =>
          obtain ⟨l', x', q1, q2, q3, q4⟩ := hT7.wsome k w hlk (by simp)
          rw [hlk, Option.getD_some] at Rk
          have Re := eqv_slB (h := h8) q2 q3
          try simp (disch := first | omega | (simp only [PL]; omega)) only [PS, P1, P2, P3, P4, P5, P6, P7, P8, PA, PB, PC, Nat.reduceAdd, Nat.reduceSub, Nat.reduceMul, Nat.reduceLeDiff, Nat.reduceEqDiff, Nat.succ_ne_self, reduceCtorEq, Int.reduceToNat, Int.cast_ofNat_Int, Int.reduceEq, Int.reduceNe, Int.reduceLT, Int.reduceLE, A3, encKS, Rk, Re]
          refine k_loop (dn ++ [x]) hmeas (by try simp only [Pe, and_true, true_and, and_self]) ⟨g7, W7, wkv7, bs7, ck7, St8, hg7, hT7, hd8, d2, fun j k' v' x' a1 a2 a3 => ?_⟩
          rcases hkey j k' v' x' a1 a2 a3 with h1 | rfl
          · exact d3 j k' v' x' a1 a2 h1
          · rw [q1]; simp
        | none =>
          have hWn := hT7.wnone k hlk
          rw [hlk, Option.getD_none] at Rk
          try simp (disch := first | omega | (simp only [PL]; omega)) only [PS, P1, P2, P3, P4, P5, P6, P7, P8, PA, PB, PC, Nat.reduceAdd, Nat.reduceSub, Nat.reduceMul, Nat.reduceLeDiff, Nat.reduceEqDiff, Nat.succ_ne_self, reduceCtorEq, Int.reduceToNat, Int.cast_ofNat_Int, Int.reduceEq, Int.reduceNe, Int.reduceLT, Int.reduceLE, A3, encKS, Rk, eqv_sl0, Option.isNone_none]
          refine i_bslB encI 1 (fun _ => rfl) [] rfl rfl (by simp [maxLen]) fun x1 b1 h9 hle9 hb1 hx1 hS1 => ?_
          have O1 := hS1.one
          have St9 := Step.alloc (hle8) hle9
          have hgj : Heap.le (join g7 (fr h8 h9)) h9 := St9.le
          have hT9 := hT7.le (join_l g7 (fr h8 h9))
          try simp (disch := first | omega | (simp only [PL]; omega)) only [PS, P1, P2, P3, P4, P5, P6, P7, P8, PA, PB, PC, Nat.reduceAdd, Nat.reduceSub, Nat.reduceMul, Nat.reduceLeDiff, Nat.reduceEqDiff, Nat.succ_ne_self, reduceCtorEq, Int.reduceToNat, Int.cast_ofNat_Int, Int.reduceEq, Int.reduceNe, Int.reduceLT, Int.reduceLE, O1.1, O1.2]
          refine i_mupd (kb := .str) (ek := encKS) (ev := id) hT9.wm hgj k x1 fun o bs' ck' p1 p2 _ => ?_
          have hno : ∀ y, g7 y ≠ none → y ≠ b1 := by
            rintro y hy rfl
            exact hy (le_none hle8 _ hb1)
          have hT10 := hT9.put (.inl rfl) (hS1.le (join_r (hle8.trans hle9) (fr_le _ _))) hx1 (Ne.symm (hno b hT7.obj.mem)) (Ne.symm (hno mw hT7.wm.mem)) (fun e => hno b1 (hT7.evs.mem e) rfl) (by
            cases hgx : gi5 b1 with
            | none => rfl
            | some o => exact absurd rfl (hno b1 (by rw [hT7.gile _ _ hgx]; simp))) (fun t w hw ht e => by
            obtain ⟨l', y, a1, a2, a3, _⟩ := hT7.wsome t w hw (by simp)
            exact hno b1 (a2.mem e) rfl) p1
          obtain ⟨St10, hg10⟩ := St8.cpart hg7 (St9.trans p2)
          try simp (disch := first | omega | (simp only [PL]; omega)) only [PS, P1, P2, P3, P4, P5, P6, P7, P8, PA, PB, PC, Nat.reduceAdd, Nat.reduceSub, Nat.reduceMul, Nat.reduceLeDiff, Nat.reduceEqDiff, Nat.succ_ne_self, reduceCtorEq, Int.reduceToNat, Int.cast_ofNat_Int, Int.reduceEq, Int.reduceNe, Int.reduceLT, Int.reduceLE]
          refine k_loop (dn ++ [x]) hmeas (by try simp only [Pe, and_true, true_and, and_self]) ⟨_, _, _, _, _, St10, hg10, hT10, hd8, fun tag => ?_, fun j k' v' x' a1 a2 a3 => ?_⟩
          · by_cases e : tag = k
            · subst e
              refine .inr ⟨?_, by simp, hkt⟩
              rcases d2 tag with h1 | h1
              · rw [← h1]; exact hWn
              · exact h1.1
            · simp only [e, if_false]; exact d2 tag
          · by_cases e : k' = k
            · subst e; simp
            · simp only [e, if_false]
              exact (hkey j k' v' x' a1 a2 a3).elim (fun h1 => d3 j k' v' x' a1 a2 h1) (fun h1 => absurd h1 e)
    · rintro env h7 ⟨⟨g7, W7, wkv7, bs7, ck7, St7, hT7, hW7⟩, rfl⟩
      clear n1 n2 n3 nb nd hes5 hit St6 hgr St5 hT5 hW hle6
      have Ro := (objAt.le hT7.obj St7.le).rules
      have A3 : h7.cell ((⟨b, 0, none⟩ : Addr).add 3) = some (.map (some mw)) := Ro.1 3 (by simp)
      try simp (disch := first | omega | (simp only [PL]; omega)) only [PS, P1, P2, P3, P4, P5, P6, P7, P8, PA, PB, PC, Nat.reduceAdd, Nat.reduceSub, Nat.reduceMul, Nat.reduceLeDiff, Nat.reduceEqDiff, Nat.succ_ne_self, reduceCtorEq, Int.reduceToNat, Int.cast_ofNat_Int, Int.reduceEq, Int.reduceNe, Int.reduceLT, Int.reduceLE, A3]
      have hm7 : ∃ es, h7 mw = some (.map es ck7) := by obtain ⟨es, q, _⟩ := hT7.wm; exact ⟨es, St7.le _ _ q⟩
      obtain ⟨es7, hes7⟩ := hm7
      refine i_rng hes7 fun r h8 hr hle8 hit => ?_
      obtain ⟨St8, hgr⟩ := St7.cnew hr hle8 (fr_le _ _ _ _ hit)
      try simp (disch := first | omega | (simp only [PL]; omega)) only [PS, P1, P2, P3, P4, P5, P6, P7, P8, PA, PB, PC, Nat.reduceAdd, Nat.reduceSub, Nat.reduceMul, Nat.reduceLeDiff, Nat.reduceEqDiff, Nat.succ_ne_self, reduceCtorEq, Int.reduceToNat, Int.cast_ofNat_Int, Int.reduceEq, Int.reduceNe, Int.reduceLT, Int.reduceLE]
      refine i_loop (fun _ : List Nat => [some (.pointer (some ⟨b, 0, none⟩)), none, none, none, none, none, none, none, none, none, none, none, none, none, none, none, none, none, none, none, none, none, none, none, none, none, none, none, none, none, none, some (.pointer (some ⟨r, 0, none⟩)), none, none, none, none, none, none, none, none, none, none, none, none, none])
        (fun dn h8 => ∃ g8 W8 wkv8, Step g h (join (cell1 r (.mapIter (some mw) ck7 dn.toArray ck7)) g8) h8 ∧ g8 r = none ∧ TrG g8 b window need (EL ++ [l]) W8 none ev' mw wkv8 bs7 ck7 gi5 ems5 ∧ wkv8.map (·.1) = wkv7.map (·.1) ∧ (∀ x ∈ dn, x ∈ bs7) ∧ (∀ (i : Nat) k x, (wkv7.map (·.1))[i]? = some k → bs7[i]? = some x → W8 k = if x ∈ dn then some (wl window need (EL ++ [l]) k) else W7 k))
        (fun dn => todo bs7 dn) [] (by try simp only [Pe, and_true, true_and, and_self]) ⟨g7, W7, wkv7, St8, hgr, hT7, rfl, by simp, by simp⟩ ?_
      rintro dn h8 ⟨g8, W8, wkv8, St8, hg8, hT8, hks, d1, d2⟩
      obtain ⟨it8, hle8⟩ := St8.cr hg8
      try simp (disch := first | omega | (simp only [PL]; omega)) only [PS, P1, P2, P3, P4, P5, P6, P7, P8, PA, PB, PC, Nat.reduceAdd, Nat.reduceSub, Nat.reduceMul, Nat.reduceLeDiff, Nat.reduceEqDiff, Nat.succ_ne_self, reduceCtorEq, Int.reduceToNat, Int.cast_ofNat_Int, Int.reduceEq, Int.reduceNe, Int.reduceLT, Int.reduceLE]
      refine i_nxt (hT8.wm.le hle8) it8 d1 ?_ ?_
      · intro hall
        try simp (disch := first | omega | (simp only [PL]; omega)) only [PS, P1, P2, P3, P4, P5, P6, P7, P8, PA, PB, PC, Nat.reduceAdd, Nat.reduceSub, Nat.reduceMul, Nat.reduceLeDiff, Nat.reduceEqDiff, Nat.succ_ne_self, reduceCtorEq, Int.reduceToNat, Int.cast_ofNat_Int, Int.reduceEq, Int.reduceNe, Int.reduceLT, Int.reduceLE]
        refine hK2 hgood h8 g8 (St8.cdrop hg8) ⟨W8, ev', mw, wkv8, bs7, ck7, gi5, ems5, hT8, fun tag => ?_⟩
        obtain ⟨_, _, _, w3, w4, _, w6⟩ := hT8.wm
        have h1 : toldE (EL ++ [l]) tag ↔ toldE EL tag ∨ toldIn l tag := by
          simp only [toldE, List.mem_append, List.mem_singleton]
          constructor
          · rintro ⟨x, hx | rfl, h⟩
            · exact .inl ⟨x, hx, h⟩
            · exact .inr h
          · rintro (⟨x, hx, h⟩ | h)
            · exact ⟨x, .inl hx, h⟩
            · exact ⟨l, .inr rfl, h⟩
        have hw7 := hW7 tag
        by_cases hin : tag ∈ wkv7.map (·.1)
        · obtain ⟨j, hj, he⟩ := List.getElem_of_mem hin
          have hjb : j < bs7.length := by rw [w3, ← List.length_map (f := (·.1)), hks]; exact hj
          have h2 := d2 j tag (bs7[j]) (by rw [List.getElem?_eq_getElem hj, he]) (by rw [List.getElem?_eq_getElem])
          rw [h2, if_pos (hall _ (List.getElem_mem _)), if_pos]
          rw [h1]
          refine Classical.byContradiction fun h3 => ?_
          rw [not_or] at h3
          rw [if_neg h3.1, if_neg h3.2] at hw7
          cases h5 : look wkv7 tag with
          | none => exact look_none h5 hin
          | some v =>
            obtain ⟨l', _, q, _⟩ := hT7.wsome tag v h5 (by simp)
            rw [hw7] at q; cases q
        · have hn8 : look wkv8 tag = none := by
            cases h5 : look wkv8 tag with
            | none => rfl
            | some v => exact absurd (by rw [← hks]; exact List.mem_map.2 ⟨_, look_mem h5, rfl⟩) hin
          have hn7 : look wkv7 tag = none := by
            cases h5 : look wkv7 tag with
            | none => rfl
            | some v => exact absurd (List.mem_map.2 ⟨_, look_mem h5, rfl⟩) hin
          rw [hT8.wnone tag hn8, if_neg]
          rw [h1]
          rw [hT7.wnone tag hn7] at hw7
          rintro (e | e)
          · rw [if_pos e] at hw7; cases hw7
          · rw [if_pos e] at hw7
            split at hw7 <;> cases hw7
      · intro i x k v hi hx hnd
        have St9 := St8.cset hg8 (.mapIter (some mw) ck7 (dn ++ [x]).toArray ck7)
        obtain ⟨it9, hle9⟩ := St9.cr hg8
        generalize h8.set r (.mapIter (some mw) ck7 (dn ++ [x]).toArray ck7) = h9 at *
        try simp (disch := first | omega | (simp only [PL]; omega)) only [PS, P1, P2, P3, P4, P5, P6, P7, P8, PA, PB, PC, Nat.reduceAdd, Nat.reduceSub, Nat.reduceMul, Nat.reduceLeDiff, Nat.reduceEqDiff, Nat.succ_ne_self, reduceCtorEq, Int.reduceToNat, Int.cast_ofNat_Int, Int.reduceEq, Int.reduceNe, Int.reduceLT, Int.reduceLE]
        refine i_ent (hT8.wm.le hle9) it9 hi hx ?_
        try simp (disch := first | omega | (simp only [PL]; omega)) only [PS, P1, P2, P3, P4, P5, P6, P7, P8, PA, PB, PC, Nat.reduceAdd, Nat.reduceSub, Nat.reduceMul, Nat.reduceLeDiff, Nat.reduceEqDiff, Nat.succ_ne_self, reduceCtorEq, Int.reduceToNat, Int.cast_ofNat_Int, Int.reduceEq, Int.reduceNe, Int.reduceLT, Int.reduceLE, encKS, id]
        obtain ⟨_, _, _, _, w4, _, w6⟩ := hT8.wm
        have hlk : look wkv8 k = some v := look_of_mem w6 (List.mem_of_getElem? hi)
        have hki : (wkv7.map (·.1))[i]? = some k := by rw [← hks, List.getElem?_map, hi]; rfl
        rw [hks] at w6
        obtain ⟨hT9, l0, hl0, hH9⟩ := hT8.hole_of hlk
        refine i_loop (fun s : Value × List Int => [some (.pointer (some ⟨b, 0, none⟩)), none, none, none, none, none, some (.string (str k)), some s.1, none, none, none, none, none, none, none, none, none, none, none, none, none, none, none, none, none, none, none, none, none, none, none, some (.pointer (some ⟨r, 0, none⟩)), none, none, none, none, none, none, none, none, none, none, none, none, none])
          (fun s h10 => ∃ g10, Step g h (join (cell1 r (.mapIter (some mw) ck7 (dn ++ [x]).toArray ck7)) g10) h10 ∧ g10 r = none ∧ TrG g10 b window need (EL ++ [l]) W8 (some k) ev' mw wkv8 bs7 ck7 gi5 ems5 ∧ HoleV g10 b mw wkv8 ev' gi5 k s.1 s.2 ∧ s.2.length ≤ EL.length ∧ (s.2 = wl window need EL k ∨ (¬ toldE EL k ∧ s.2 = List.replicate s.2.length (-1))))
          (fun s => EL.length - s.2.length) (v, l0) (by try simp only [Pe, and_true, true_and, and_self]) ⟨g8, St9, hg8, hT9, hH9, ?_⟩ ?_
        · have h1 := d2 i k x hki hx
          rw [if_neg hnd, hW7 k, hl0] at h1
          by_cases e : toldE EL k
          · rw [if_pos e] at h1; cases h1
            exact ⟨by simp [wl], .inl rfl⟩
          · rw [if_neg e] at h1
            by_cases e2 : toldIn l k
            · rw [if_pos e2] at h1; cases h1
              exact ⟨by simp, .inr ⟨e, rfl⟩⟩
            · rw [if_neg e2] at h1; cases h1
        rintro ⟨v1, l1⟩ h10 ⟨g10, St10, hg10, hT10, hH10, hl1, hl2⟩
        dsimp only at hH10 hl1 hl2
        obtain ⟨_, hle10⟩ := St10.cr hg10
        have Ro := (objAt.le hT10.obj hle10).rules
        have A2 : h10.cell ((⟨b, 0, none⟩ : Addr).add 2) = some ev' := Ro.1 2 (by simp)
        have Rl := ((SlB.sl (enc := encI) (sz := 1) (fun _ => rfl) (hH10.1.le hle10)).rules 1 (fun _ => rfl) default)
        have Re := ((SlB.sl (enc := encM) (sz := 1) (fun _ => rfl) (hT10.evs.le hle10)).rules 1 (fun _ => rfl) default)
        have hel := hT10.elen
        have hw : IntKind.i64.wrap ((ems5.length : Int) - 1) = (EL.length : Int) := by rw [hel]; simp only [List.length_append, List.length_cons, List.length_nil]; rw [w64 (by omega) (by omega)]; omega
        have O1 := hH10.1.one
        try simp (disch := first | omega | (simp only [PL]; omega)) only [PS, P1, P2, P3, P4, P5, P6, P7, P8, PA, PB, PC, Nat.reduceAdd, Nat.reduceSub, Nat.reduceMul, Nat.reduceLeDiff, Nat.reduceEqDiff, Nat.succ_ne_self, reduceCtorEq, Int.reduceToNat, Int.cast_ofNat_Int, Int.reduceEq, Int.reduceNe, Int.reduceLT, Int.reduceLE, A2, Rl, Re, hw]
        refine i_cond (fun c4 => ?_) (fun c4 => ?_)
        · try simp (disch := first | omega | (simp only [PL]; omega)) only [PS, P1, P2, P3, P4, P5, P6, P7, P8, PA, PB, PC, Nat.reduceAdd, Nat.reduceSub, Nat.reduceMul, Nat.reduceLeDiff, Nat.reduceEqDiff, Nat.succ_ne_self, reduceCtorEq, Int.reduceToNat, Int.cast_ofNat_Int, Int.reduceEq, Int.reduceNe, Int.reduceLT, Int.reduceLE, O1.1, O1.2]
          refine i_bslB encI 1 (fun _ => rfl) [-1] rfl rfl (by simp [maxLen]) fun x1 b1 h11 hle11 hb1 hx1 hS1 => ?_
          have O2 := hS1.one
          have hg11 := hle10.trans hle11
          try simp (disch := first | omega | (simp only [PL]; omega)) only [PS, P1, P2, P3, P4, P5, P6, P7, P8, PA, PB, PC, Nat.reduceAdd, Nat.reduceSub, Nat.reduceMul, Nat.reduceLeDiff, Nat.reduceEqDiff, Nat.succ_ne_self, reduceCtorEq, Int.reduceToNat, Int.cast_ofNat_Int, Int.reduceEq, Int.reduceNe, Int.reduceLT, Int.reduceLE, O2.1, O2.2]
          refine i_appB (enc := encI) (sz := 1) (g := g10) (l := l1) (l' := [-1]) (fun _ => rfl) (by simp [encI, one]) hH10.1 hg11 (SlB.sl (enc := encI) (sz := 1) (fun _ => rfl) (hS1.le (fr_le _ _))) (by simp; omega) fun v2 h12 g12 hS12 St12 e1 e2 e3 => ?_
          obtain ⟨hT12, hH12⟩ := HoleV.app hT10 hH10 hg11 (by simp) hS12 e1 e2
          obtain ⟨St13, hg13⟩ := St10.cpart hg10 ((Step.more hle10 hle11).trans St12)
          have O3 := hS12.one
          try simp (disch := first | omega | (simp only [PL]; omega)) only [PS, P1, P2, P3, P4, P5, P6, P7, P8, PA, PB, PC, Nat.reduceAdd, Nat.reduceSub, Nat.reduceMul, Nat.reduceLeDiff, Nat.reduceEqDiff, Nat.succ_ne_self, reduceCtorEq, Int.reduceToNat, Int.cast_ofNat_Int, Int.reduceEq, Int.reduceNe, Int.reduceLT, Int.reduceLE, O3.1, O3.2]
          refine k_loop (v2, l1 ++ [-1]) (by simp; omega) (by try simp only [Pe, and_true, true_and, and_self]) ⟨g12, St13, hg13, hT12, hH12, by simp; omega, ?_⟩
          rcases hl2 with h1 | ⟨h1, h2⟩
          · have : l1.length = EL.length := by rw [h1]; simp [wl]
            omega
          · refine .inr ⟨h1, ?_⟩
            rw [List.length_append, List.length_singleton, List.replicate_succ', ← h2]
        · have A3 : h10.cell ((⟨b, 0, none⟩ : Addr).add 3) = some (.map (some mw)) := Ro.1 3 (by simp)
          have hok' : TrOk window need (EL ++ [l]) := ⟨hok.w, hok.n, by simp; omega, fun l' hl' => by
            rw [List.mem_append, List.mem_singleton] at hl'
            rcases hl' with hl' | rfl
            · exact hok.ok l' hl'
            · exact ⟨hgood, hll⟩⟩
          try simp (disch := first | omega | (simp only [PL]; omega)) only [PS, P1, P2, P3, P4, P5, P6, P7, P8, PA, PB, PC, Nat.reduceAdd, Nat.reduceSub, Nat.reduceMul, Nat.reduceLeDiff, Nat.reduceEqDiff, Nat.succ_ne_self, reduceCtorEq, Int.reduceToNat, Int.cast_ofNat_Int, Int.reduceEq, Int.reduceNe, Int.reduceLT, Int.reduceLE, A3]
          refine i_call H60 ⟨⟨b, 0, none⟩, k, window, need, EL ++ [l], rfl, hT10.r hle10, hok', fun h11 hle11 => ?_⟩
          try simp (disch := first | omega | (simp only [PL]; omega)) only [PS, P1, P2, P3, P4, P5, P6, P7, P8, PA, PB, PC, Nat.reduceAdd, Nat.reduceSub, Nat.reduceMul, Nat.reduceLeDiff, Nat.reduceEqDiff, Nat.succ_ne_self, reduceCtorEq, Int.reduceToNat, Int.cast_ofNat_Int, Int.reduceEq, Int.reduceNe, Int.reduceLT, Int.reduceLE]
          obtain ⟨o1, ho1, hx1⟩ : ∃ o1, g10 b = some o1 ∧ objAt (cell1 b o1) ⟨b, 0, none⟩ [.int .i64 window, .int .i64 need, ev', .map (some mw)] := by
            obtain ⟨q1, c, t, q2, q3⟩ := hT10.obj
            exact ⟨_, q2, q1, c, t, by simp [cell1], q3⟩
          have hxle : ∀ {H : Heap}, H b = some o1 → Heap.le (cell1 b o1) H := by
            intro H hH y z hy
            simp only [cell1] at hy
            split at hy
            · rename_i e; cases hy; rw [e]; exact hH
            · cases hy
          have A3x : (cell1 b o1).cell ((⟨b, 0, none⟩ : Addr).add 3) = some (.map (some mw)) := hx1.rules.1 3 (by simp)
          have hb10 := hle10 _ _ ho1
          refine i_lex (cell1 b o1) (hxle hb10) ?_ (le_one (hxle (hle11 _ _ hb10))) ?_
          · intro l' hl'
            simp only [List.mem_singleton] at hl'
            subst hl'
            exact ⟨true, rfl, fun _ => ⟨.v (.map (some mw)), by try simp (disch := first | omega | (simp only [PL]; omega)) only [PS, P1, P2, P3, P4, P5, P6, P7, P8, PA, PB, PC, Nat.reduceAdd, Nat.reduceSub, Nat.reduceMul, Nat.reduceLeDiff, Nat.reduceEqDiff, Nat.succ_ne_self, reduceCtorEq, Int.reduceToNat, Int.cast_ofNat_Int, Int.reduceEq, Int.reduceNe, Int.reduceLT, Int.reduceLE, A3x]⟩⟩
          try simp (disch := first | omega | (simp only [PL]; omega)) only [PS, P1, P2, P3, P4, P5, P6, P7, P8, PA, PB, PC, Nat.reduceAdd, Nat.reduceSub, Nat.reduceMul, Nat.reduceLeDiff, Nat.reduceEqDiff, Nat.succ_ne_self, reduceCtorEq, Int.reduceToNat, Int.cast_ofNat_Int, Int.reduceEq, Int.reduceNe, Int.reduceLT, Int.reduceLE]
          refine i_bslB encI 1 (fun _ => rfl) [atE window need (EL ++ [l]) k] rfl rfl (by simp [maxLen]) fun x1 b1 h12 hle12 hb1 hx1 hS1 => ?_
          have O2 := hS1.one
          have hle1012 := hle11.trans hle12
          have hg12 := hle10.trans hle1012
          try simp (disch := first | omega | (simp only [PL]; omega)) only [PS, P1, P2, P3, P4, P5, P6, P7, P8, PA, PB, PC, Nat.reduceAdd, Nat.reduceSub, Nat.reduceMul, Nat.reduceLeDiff, Nat.reduceEqDiff, Nat.succ_ne_self, reduceCtorEq, Int.reduceToNat, Int.cast_ofNat_Int, Int.reduceEq, Int.reduceNe, Int.reduceLT, Int.reduceLE]
          refine i_lew (le_one (hxle (hle1012 _ _ hb10))) ?_
          have hvb : blkOf v1 ≠ some b := by
            obtain ⟨_, x, q1, q2, _⟩ := hH10.2
            all_goals (intro e; simp_all)
          try simp (disch := first | omega | (simp only [PL]; omega)) only [PS, P1, P2, P3, P4, P5, P6, P7, P8, PA, PB, PC, Nat.reduceAdd, Nat.reduceSub, Nat.reduceMul, Nat.reduceLeDiff, Nat.reduceEqDiff, Nat.succ_ne_self, reduceCtorEq, Int.reduceToNat, Int.cast_ofNat_Int, Int.reduceEq, Int.reduceNe, Int.reduceLT, Int.reduceLE, O1.1, O1.2, O2.1, O2.2]
          refine i_appB (enc := encI) (sz := 1) (g := g10) (l := l1) (l' := [atE window need (EL ++ [l]) k]) (fun _ => rfl) (by simp [encI, one]) hH10.1 hg12 (SlB.sl (enc := encI) (sz := 1) (fun _ => rfl) (hS1.le (fr_le _ _))) (by simp; omega) fun v2 h13 g13 hS13 St13 e1 e2 e3 => ?_
          obtain ⟨hT13, hH13⟩ := HoleV.app hT10 hH10 hg12 (by simp) hS13 e1 e2
          have O3 := hS13.one
          try simp (disch := first | omega | (simp only [PL]; omega)) only [PS, P1, P2, P3, P4, P5, P6, P7, P8, PA, PB, PC, Nat.reduceAdd, Nat.reduceSub, Nat.reduceMul, Nat.reduceLeDiff, Nat.reduceEqDiff, Nat.succ_ne_self, reduceCtorEq, Int.reduceToNat, Int.cast_ofNat_Int, Int.reduceEq, Int.reduceNe, Int.reduceLT, Int.reduceLE]
          refine i_lew (le_one (hxle (e3 _ _ (hle1012 _ _ hb10) hvb))) ?_
          try simp (disch := first | omega | (simp only [PL]; omega)) only [PS, P1, P2, P3, P4, P5, P6, P7, P8, PA, PB, PC, Nat.reduceAdd, Nat.reduceSub, Nat.reduceMul, Nat.reduceLeDiff, Nat.reduceEqDiff, Nat.succ_ne_self, reduceCtorEq, Int.reduceToNat, Int.cast_ofNat_Int, Int.reduceEq, Int.reduceNe, Int.reduceLT, Int.reduceLE, O3.1, O3.2]
          obtain ⟨hs13, y, y1, y2, y3, y4, y5, y6⟩ := hH13
          refine i_mupd (kb := .str) (ek := encKS) (ev := id) hT13.wm St13.le k v2 fun o bs' ck' p1 p2 p3 => ?_
          have hkin : k ∈ wkv8.map (·.1) := List.mem_map.2 ⟨_, List.mem_of_getElem? hi, rfl⟩
          obtain ⟨rfl, rfl⟩ := p3 hkin
          have hT14 := hT13.put (.inr rfl) hs13 y1 y2 y3 y4 y5 (fun t w hw hne => y6 t w hw hne) p1
          obtain ⟨St14, hg14⟩ := St10.cpart hg10 ((Step.more hle10 hle1012).trans (St13.trans p2))
          try simp (disch := first | omega | (simp only [PL]; omega)) only [PS, P1, P2, P3, P4, P5, P6, P7, P8, PA, PB, PC, Nat.reduceAdd, Nat.reduceSub, Nat.reduceMul, Nat.reduceLeDiff, Nat.reduceEqDiff, Nat.succ_ne_self, reduceCtorEq, Int.reduceToNat, Int.cast_ofNat_Int, Int.reduceEq, Int.reduceNe, Int.reduceLT, Int.reduceLE]
          refine k_loop (dn ++ [x]) (todo_lt (List.mem_of_getElem? hx) hnd) (by try simp only [Pe, and_true, true_and, and_self]) ⟨_, _, _, St14, hg14, hT14, ?_, ?_, ?_⟩
          · rw [upd_keys, if_pos hkin, hks]
          · intro z hz
            rw [List.mem_append, List.mem_singleton] at hz
            rcases hz with hz | rfl
            · exact d1 z hz
            · exact List.mem_of_getElem? hx
          · intro j k' x' a1 a2
            by_cases e : k' = k
            · subst e
              have hj := nodup_idx w6 a1 hki
              subst hj
              rw [hx] at a2; cases a2
              rw [if_pos rfl, if_pos (by simp), ← wl_snoc]
              rcases hl2 with h1 | ⟨h1, h2⟩
              · rw [h1]
              · rw [wl_none hok.n.1 h1, h2, show l1.length = EL.length by omega]
            · simp only [e, if_false]
              rw [d2 j k' x' a1 a2]
              have hxx : x' ≠ x := by
                rintro rfl
                have hj := nodup_idx w4 a2 hx
                subst hj
                rw [hki] at a1; cases a1; exact e rfl
              simp [hxx]
end Go.Cw
namespace Go.Cw
open Go

def newBad (w n : Int) : Prop := w < 1 ∨ 8 < w ∨ n < 1 ∨ w < n
instance (w n : Int) : Decidable (newBad w n) := by unfold newBad; infer_instance
def S28 (N : Num) : Spec := fun args h K => ∃ w n, args = [.int .i64 w, .int .i64 n] ∧
  (newBad w n → ∀ h', Heap.le h h' → K (.tuple #[.pointer none, errV N 1]) h') ∧
  (¬ newBad w n → ∀ b h', h b = none → Heap.le h h' → TrO (fr h h') b w.toNat n.toNat [] → K (.tuple #[.pointer (some ⟨b, 0, none⟩), .nilIface]) h')

theorem F28_ok {N : Num} {Γ : Ctx} [GoodC Γ] : Sat (S28 N) (SF N Γ F28) := by
  rintro _ h K ⟨w, n, rfl, hK1, hK2⟩
  refine i_fun rfl ?_
  simp only [F28, env0, List.map, List.length, List.replicate, List.cons_append, List.nil_append, Nat.reduceSub, Nat.reduceAdd]
  try simp (disch := first | omega | (simp only [PL]; omega)) only [PS, P1, P2, P3, P4, P5, P6, P7, P8, PA, PB, PC, Nat.reduceAdd, Nat.reduceSub, Nat.reduceMul, Nat.reduceLeDiff, Nat.reduceEqDiff, Nat.succ_ne_self, reduceCtorEq, Int.reduceToNat, Int.cast_ofNat_Int, Int.reduceEq, Int.reduceNe, Int.reduceLT, Int.reduceLE]
  refine i_cond (fun c1 => ?_) (fun c1 => ?_)
  · try simp (disch := first | omega | (simp only [PL]; omega)) only [PS, P1, P2, P3, P4, P5, P6, P7, P8, PA, PB, PC, Nat.reduceAdd, Nat.reduceSub, Nat.reduceMul, Nat.reduceLeDiff, Nat.reduceEqDiff, Nat.succ_ne_self, reduceCtorEq, Int.reduceToNat, Int.cast_ofNat_Int, Int.reduceEq, Int.reduceNe, Int.reduceLT, Int.reduceLE]
    exact hK1 (by unfold newBad; omega) h (Heap.le.refl h)
  · try simp (disch := first | omega | (simp only [PL]; omega)) only [PS, P1, P2, P3, P4, P5, P6, P7, P8, PA, PB, PC, Nat.reduceAdd, Nat.reduceSub, Nat.reduceMul, Nat.reduceLeDiff, Nat.reduceEqDiff, Nat.succ_ne_self, reduceCtorEq, Int.reduceToNat, Int.cast_ofNat_Int, Int.reduceEq, Int.reduceNe, Int.reduceLT, Int.reduceLE]
    refine i_mnew (ek := encKS) (ev := (id : Value → Value)) fun m h1 hm0 hle1 hmE => ?_
    try simp (disch := first | omega | (simp only [PL]; omega)) only [PS, P1, P2, P3, P4, P5, P6, P7, P8, PA, PB, PC, Nat.reduceAdd, Nat.reduceSub, Nat.reduceMul, Nat.reduceLeDiff, Nat.reduceEqDiff, Nat.succ_ne_self, reduceCtorEq, Int.reduceToNat, Int.cast_ofNat_Int, Int.reduceEq, Int.reduceNe, Int.reduceLT, Int.reduceLE]
    refine i_newO fun b h2 hle2 hb ho => ?_
    try simp (disch := first | omega | (simp only [PL]; omega)) only [PS, P1, P2, P3, P4, P5, P6, P7, P8, PA, PB, PC, Nat.reduceAdd, Nat.reduceSub, Nat.reduceMul, Nat.reduceLeDiff, Nat.reduceEqDiff, Nat.succ_ne_self, reduceCtorEq, Int.reduceToNat, Int.cast_ofNat_Int, Int.reduceEq, Int.reduceNe, Int.reduceLT, Int.reduceLE]
    simp only [newBad] at hK2
    have hbm : b ≠ m := by
      rintro rfl
      exact (hmE.le (fr_le _ _)).mem hb
    refine hK2 (by omega) b h2 (le_none hle1 b hb) (hle1.trans hle2) ⟨fun _ => none, .slice none 0 0, m, [], [], 0, fun _ => none, [], ⟨?_, SlB.nil, hmE.le (fr_mono hle2), fun _ _ => rfl, fun t v h => by simp [look_nil] at h, fun t t' v v' h => by simp [look_nil] at h, hbm, ⟨by simp [blkOf], by simp [blkOf]⟩, rfl, fun i hi => by simp at hi, fun y o hy => (by cases hy), rfl, rfl, fun _ _ => rfl⟩, fun tag => by simp [toldE]⟩
    have h3 := ho.le (fr_fr hle1)
    have e1 : ((w.toNat : Nat) : Int) = w := by omega
    have e2 : ((n.toNat : Nat) : Int) = n := by omega
    rw [e1, e2]
    exact h3
def S31 : Spec := fun args h K => ∃ g b window need EL, args = [.pointer (some ⟨b, 0, none⟩)] ∧ TrO g b window need EL ∧ Heap.le g h ∧ K (.int .i64 EL.length) h
theorem F31_ok {N : Num} {Γ : Ctx} [GoodC Γ] : Sat S31 (SF N Γ F31) := by
  rintro _ h K ⟨g, b, window, need, EL, rfl, ⟨W, ev, mw, wkv, bs, ck, gi, ems, hT, hW⟩, hg, hK⟩
  refine i_fun rfl ?_
  simp only [F31, env0, List.map, List.length, List.replicate, List.cons_append, List.nil_append, Nat.reduceSub, Nat.reduceAdd]
  have A2 : h.cell ((⟨b, 0, none⟩ : Addr).add 2) = some ev := (objAt.le hT.obj hg).rules.1 2 (by simp)
  have Re := ((SlB.sl (enc := encM) (sz := 1) (fun _ => rfl) (hT.evs.le hg)).rules 1 (fun _ => rfl) default)
  have hel := hT.elen
  try simp (disch := first | omega | (simp only [PL]; omega)) only [PS, P1, P2, P3, P4, P5, P6, P7, P8, PA, PB, PC, Nat.reduceAdd, Nat.reduceSub, Nat.reduceMul, Nat.reduceLeDiff, Nat.reduceEqDiff, Nat.succ_ne_self, reduceCtorEq, Int.reduceToNat, Int.cast_ofNat_Int, Int.reduceEq, Int.reduceNe, Int.reduceLT, Int.reduceLE, A2, Re, hel]
  exact hK
def S30 (N : Num) : Spec := fun args h K => ∃ g b window need EL tag e, args = [.pointer (some ⟨b, 0, none⟩), .string (str tag), .int .i64 e] ∧ TrO g b window need EL ∧ Heap.le g h ∧
  ((e < 0 ∨ (EL.length : Int) ≤ e) → K (.tuple #[.int .i64 0, errV N 1]) h) ∧
  (0 ≤ e → e < EL.length → ¬ toldE EL tag → K (.tuple #[.int .i64 0, errV N 5]) h) ∧
  (0 ≤ e → e < EL.length → toldE EL tag → K (.tuple #[.int .i64 (atE window need (EL.take (e.toNat + 1)) tag), .nilIface]) h)
theorem MapB.lkpos {h : Heap} {m : Nat} {kv : List (List UInt8 × Value)} {bs : List Nat} {ck : Nat} (hm : MapB encKS id h m kv bs ck) (k : List UInt8) : o2V h (.lkpo .str (.slice none 0 0)) (.v (.map (some m))) (.v (.string (str k))) = some (.v (.tuple #[(look kv k).getD (.slice none 0 0), .bool (look kv k).isSome])) := by
  have := (hm.rules .str).2.1 (.slice none 0 0) k
  rw [show (Value.string (str k)) = encKS k from rfl, this]
  cases look kv k <;> rfl
theorem F30_ok {N : Num} {Γ : Ctx} [GoodC Γ] : Sat (S30 N) (SF N Γ F30) := by
  rintro _ h K ⟨g, b, window, need, EL, tag, e, rfl, ⟨W, ev, mw, wkv, bs, ck, gi, ems, hT, hW⟩, hg, hK1, hK2, hK3⟩
  refine i_fun rfl ?_
  simp only [F30, env0, List.map, List.length, List.replicate, List.cons_append, List.nil_append, Nat.reduceSub, Nat.reduceAdd]
  have A2 : h.cell ((⟨b, 0, none⟩ : Addr).add 2) = some ev := (objAt.le hT.obj hg).rules.1 2 (by simp)
  have A3 : h.cell ((⟨b, 0, none⟩ : Addr).add 3) = some (.map (some mw)) := (objAt.le hT.obj hg).rules.1 3 (by simp)
  have Re := ((SlB.sl (enc := encM) (sz := 1) (fun _ => rfl) (hT.evs.le hg)).rules 1 (fun _ => rfl) default)
  have hel := hT.elen
  have Rk := (hT.wm.le hg).lkpos tag
  have hWt := hW tag
  try simp (disch := first | omega | (simp only [PL]; omega)) only [PS, P1, P2, P3, P4, P5, P6, P7, P8, PA, PB, PC, Nat.reduceAdd, Nat.reduceSub, Nat.reduceMul, Nat.reduceLeDiff, Nat.reduceEqDiff, Nat.succ_ne_self, reduceCtorEq, Int.reduceToNat, Int.cast_ofNat_Int, Int.reduceEq, Int.reduceNe, Int.reduceLT, Int.reduceLE, A2, Re, hel]
  refine i_cond (fun c1 => ?_) (fun c1 => ?_)
  · try simp (disch := first | omega | (simp only [PL]; omega)) only [PS, P1, P2, P3, P4, P5, P6, P7, P8, PA, PB, PC, Nat.reduceAdd, Nat.reduceSub, Nat.reduceMul, Nat.reduceLeDiff, Nat.reduceEqDiff, Nat.succ_ne_self, reduceCtorEq, Int.reduceToNat, Int.cast_ofNat_Int, Int.reduceEq, Int.reduceNe, Int.reduceLT, Int.reduceLE]
    exact hK1 (by omega)
  · cases hlk : look wkv tag with
    | none =>
      rw [hlk] at Rk
      try simp (disch := first | omega | (simp only [PL]; omega)) only [PS, P1, P2, P3, P4, P5, P6, P7, P8, PA, PB, PC, Nat.reduceAdd, Nat.reduceSub, Nat.reduceMul, Nat.reduceLeDiff, Nat.reduceEqDiff, Nat.succ_ne_self, reduceCtorEq, Int.reduceToNat, Int.cast_ofNat_Int, Int.reduceEq, Int.reduceNe, Int.reduceLT, Int.reduceLE, A3, Rk]
      refine hK2 (by omega) (by omega) fun e => ?_
      rw [hT.wnone tag hlk, if_pos e] at hWt; cases hWt
    | some v =>
      rw [hlk] at Rk
      obtain ⟨l, x, q1, q2, q3, _⟩ := hT.wsome tag v hlk (by simp)
      have Rv := ((SlB.sl (enc := encI) (sz := 1) (fun _ => rfl) (q2.le hg)).rules1 (fun n => .int .i64 n) (fun _ => rfl) default)
      have ht : toldE EL tag := by
        refine Classical.byContradiction fun h3 => ?_
        rw [if_neg h3, q1] at hWt; cases hWt
      rw [if_pos ht, q1] at hWt
      cases hWt
      obtain ⟨i, rfl⟩ : ∃ i : Nat, e = i := ⟨e.toNat, by omega⟩
      have hwl : (wl window need EL tag).length = EL.length := by simp [wl]
      have hge : (wl window need EL tag).getD i default = atE window need (EL.take (i + 1)) tag := by
        rw [List.getD_eq_getElem?_getD, List.getElem?_eq_getElem (by omega)]
        simp [wl]
      rw [hwl] at Rv
      have hi : i < EL.length := by omega
      try simp (disch := first | omega | (simp only [PL]; omega)) only [PS, P1, P2, P3, P4, P5, P6, P7, P8, PA, PB, PC, Nat.reduceAdd, Nat.reduceSub, Nat.reduceMul, Nat.reduceLeDiff, Nat.reduceEqDiff, Nat.succ_ne_self, reduceCtorEq, Int.reduceToNat, Int.cast_ofNat_Int, Int.reduceEq, Int.reduceNe, Int.reduceLT, Int.reduceLE, A3, Rk, Rv, hge, encI]
      exact hK3 (by omega) (by omega) ht
end Go.Cw
namespace Go.Cw
open Go

def encV (v : Value) : List Value := [v]
/-- a slice of slices of sights -/
def SS (h : Heap) (v : Value) (L : List (List Si)) : Prop := ∃ vs : List Value, Sl encV h v vs ∧ vs.length = L.length ∧ ∀ i, i < L.length → Sl Si.enc h (vs.getD i undef) (L.getD i [])
theorem SS.le {h h' : Heap} {v : Value} {L : List (List Si)} (hs : SS h v L) (hl : Heap.le h h') : SS h' v L := by
  obtain ⟨vs, h1, h2, h3⟩ := hs; exact ⟨vs, h1.le hl, h2, fun i hi => (h3 i hi).le hl⟩
def light (L : List (List Si)) : Prop := L.length ≤ 25 ∧ ∀ l ∈ L, l.length ≤ 25
def S12 : Spec := fun args h K => ∃ v L, args = [v] ∧ SS h v L ∧ ∀ bb : Bool, (bb = true → light L) → K (.bool bb) h
theorem F12_ok {N : Num} {Γ : Ctx} [GoodC Γ] : Sat S12 (SF N Γ F12) := by
  rintro _ h K ⟨v, L, rfl, ⟨vs, hv, hvl, hr⟩, hK⟩
  refine i_fun rfl ?_
  simp only [F12, env0, List.map, List.length, List.replicate, List.cons_append, List.nil_append, Nat.reduceSub, Nat.reduceAdd]
  have R := hv.rules1 id (fun _ => rfl) undef
  rw [hvl] at R
  try simp (disch := first | omega | (simp only [PL]; omega)) only [PS, P1, P2, P3, P4, P5, P6, P7, P8, PA, PB, PC, Nat.reduceAdd, Nat.reduceSub, Nat.reduceMul, Nat.reduceLeDiff, Nat.reduceEqDiff, Nat.succ_ne_self, reduceCtorEq, Int.reduceToNat, Int.cast_ofNat_Int, Int.reduceEq, Int.reduceNe, Int.reduceLT, Int.reduceLE, R]
  refine i_cond (fun c1 => ?_) (fun c1 => ?_)
  · try simp (disch := first | omega | (simp only [PL]; omega)) only [PS, P1, P2, P3, P4, P5, P6, P7, P8, PA, PB, PC, Nat.reduceAdd, Nat.reduceSub, Nat.reduceMul, Nat.reduceLeDiff, Nat.reduceEqDiff, Nat.succ_ne_self, reduceCtorEq, Int.reduceToNat, Int.cast_ofNat_Int, Int.reduceEq, Int.reduceNe, Int.reduceLT, Int.reduceLE]
    exact hK false (by simp)
  · try simp (disch := first | omega | (simp only [PL]; omega)) only [PS, P1, P2, P3, P4, P5, P6, P7, P8, PA, PB, PC, Nat.reduceAdd, Nat.reduceSub, Nat.reduceMul, Nat.reduceLeDiff, Nat.reduceEqDiff, Nat.succ_ne_self, reduceCtorEq, Int.reduceToNat, Int.cast_ofNat_Int, Int.reduceEq, Int.reduceNe, Int.reduceLT, Int.reduceLE]
    refine i_loop (fun i : Nat => [some v, none, some (.int .i64 i), none, none, none, none, none, none]) (fun i h1 => h1 = h ∧ i ≤ L.length ∧ ∀ l ∈ L.take i, l.length ≤ 25) (fun i => L.length - i) 0 (by try simp only [Pe, and_true, true_and, and_self]; rfl) ⟨rfl, by omega, by simp⟩ ?_
    rintro i h1 ⟨rfl, hi, hd⟩
    try simp (disch := first | omega | (simp only [PL]; omega)) only [PS, P1, P2, P3, P4, P5, P6, P7, P8, PA, PB, PC, Nat.reduceAdd, Nat.reduceSub, Nat.reduceMul, Nat.reduceLeDiff, Nat.reduceEqDiff, Nat.succ_ne_self, reduceCtorEq, Int.reduceToNat, Int.cast_ofNat_Int, Int.reduceEq, Int.reduceNe, Int.reduceLT, Int.reduceLE, R]
    refine i_cond (fun c2 => ?_) (fun c2 => ?_)
    · have hi2 : i < L.length := by omega
      have Ri := (hr i hi2).rules 4 Si.enc_len default
      try simp (disch := first | omega | (simp only [PL]; omega)) only [PS, P1, P2, P3, P4, P5, P6, P7, P8, PA, PB, PC, Nat.reduceAdd, Nat.reduceSub, Nat.reduceMul, Nat.reduceLeDiff, Nat.reduceEqDiff, Nat.succ_ne_self, reduceCtorEq, Int.reduceToNat, Int.cast_ofNat_Int, Int.reduceEq, Int.reduceNe, Int.reduceLT, Int.reduceLE, R, id, Ri]
      refine i_cond (fun c3 => ?_) (fun c3 => ?_)
      · try simp (disch := first | omega | (simp only [PL]; omega)) only [PS, P1, P2, P3, P4, P5, P6, P7, P8, PA, PB, PC, Nat.reduceAdd, Nat.reduceSub, Nat.reduceMul, Nat.reduceLeDiff, Nat.reduceEqDiff, Nat.succ_ne_self, reduceCtorEq, Int.reduceToNat, Int.cast_ofNat_Int, Int.reduceEq, Int.reduceNe, Int.reduceLT, Int.reduceLE]
        exact hK false (by simp)
      · try simp (disch := first | omega | (simp only [PL]; omega)) only [PS, P1, P2, P3, P4, P5, P6, P7, P8, PA, PB, PC, Nat.reduceAdd, Nat.reduceSub, Nat.reduceMul, Nat.reduceLeDiff, Nat.reduceEqDiff, Nat.succ_ne_self, reduceCtorEq, Int.reduceToNat, Int.cast_ofNat_Int, Int.reduceEq, Int.reduceNe, Int.reduceLT, Int.reduceLE]
        refine i_loop (fun k : Nat => [some v, none, some (.int .i64 i), some (.int .i64 k), none, none, none, none, none]) (fun k h2 => h2 = h1 ∧ k ≤ (L.getD i []).length) (fun k => (L.getD i []).length - k) 0 (by try simp only [Pe, and_true, true_and, and_self]; rfl) ⟨rfl, by omega⟩ ?_
        rintro k h2 ⟨rfl, hk⟩
        try simp (disch := first | omega | (simp only [PL]; omega)) only [PS, P1, P2, P3, P4, P5, P6, P7, P8, PA, PB, PC, Nat.reduceAdd, Nat.reduceSub, Nat.reduceMul, Nat.reduceLeDiff, Nat.reduceEqDiff, Nat.succ_ne_self, reduceCtorEq, Int.reduceToNat, Int.cast_ofNat_Int, Int.reduceEq, Int.reduceNe, Int.reduceLT, Int.reduceLE, R, id, Ri]
        refine i_cond (fun c4 => ?_) (fun c4 => ?_)
        · have hk2 : k < (L.getD i []).length := by omega
          try simp (disch := first | omega | (simp only [PL]; omega)) only [PS, P1, P2, P3, P4, P5, P6, P7, P8, PA, PB, PC, Nat.reduceAdd, Nat.reduceSub, Nat.reduceMul, Nat.reduceLeDiff, Nat.reduceEqDiff, Nat.succ_ne_self, reduceCtorEq, Int.reduceToNat, Int.cast_ofNat_Int, Int.reduceEq, Int.reduceNe, Int.reduceLT, Int.reduceLE, R, id, Ri, Si.enc]
          refine i_cond (fun c5 => ?_) (fun c5 => ?_)
          · try simp (disch := first | omega | (simp only [PL]; omega)) only [PS, P1, P2, P3, P4, P5, P6, P7, P8, PA, PB, PC, Nat.reduceAdd, Nat.reduceSub, Nat.reduceMul, Nat.reduceLeDiff, Nat.reduceEqDiff, Nat.succ_ne_self, reduceCtorEq, Int.reduceToNat, Int.cast_ofNat_Int, Int.reduceEq, Int.reduceNe, Int.reduceLT, Int.reduceLE]
            exact hK false (by simp)
          · try simp (disch := first | omega | (simp only [PL]; omega)) only [PS, P1, P2, P3, P4, P5, P6, P7, P8, PA, PB, PC, Nat.reduceAdd, Nat.reduceSub, Nat.reduceMul, Nat.reduceLeDiff, Nat.reduceEqDiff, Nat.succ_ne_self, reduceCtorEq, Int.reduceToNat, Int.cast_ofNat_Int, Int.reduceEq, Int.reduceNe, Int.reduceLT, Int.reduceLE]
            exact k_loop (k + 1) (by omega) (by try simp only [Pe, and_true, true_and, and_self]) ⟨rfl, by omega⟩
        · try simp (disch := first | omega | (simp only [PL]; omega)) only [PS, P1, P2, P3, P4, P5, P6, P7, P8, PA, PB, PC, Nat.reduceAdd, Nat.reduceSub, Nat.reduceMul, Nat.reduceLeDiff, Nat.reduceEqDiff, Nat.succ_ne_self, reduceCtorEq, Int.reduceToNat, Int.cast_ofNat_Int, Int.reduceEq, Int.reduceNe, Int.reduceLT, Int.reduceLE]
          refine k_loop (i + 1) (by omega) (by try simp only [Pe, and_true, true_and, and_self]) ⟨rfl, by omega, ?_⟩
          intro l hl
          rw [take_succ_d [] hi2, List.mem_append, List.mem_singleton] at hl
          rcases hl with hl | rfl
          · exact hd l hl
          · omega
    · try simp (disch := first | omega | (simp only [PL]; omega)) only [PS, P1, P2, P3, P4, P5, P6, P7, P8, PA, PB, PC, Nat.reduceAdd, Nat.reduceSub, Nat.reduceMul, Nat.reduceLeDiff, Nat.reduceEqDiff, Nat.succ_ne_self, reduceCtorEq, Int.reduceToNat, Int.cast_ofNat_Int, Int.reduceEq, Int.reduceNe, Int.reduceLT, Int.reduceLE]
      have : i = L.length := by omega
      subst this
      rw [List.take_length] at hd
      exact hK true (fun _ => ⟨by omega, hd⟩)
end Go.Cw
/- TopTrack: the plain law. -/
namespace Go.Cw
open Go

def mine (who : List UInt8) (l : List Si) : List Si := (l.filter fun s => decide (s.tag = who)).reverse
theorem mem_mine {who : List UInt8} {l : List Si} {s : Si} : s ∈ mine who l ↔ s ∈ l ∧ s.tag = who := by simp [mine]
theorem seen_mine (who : List UInt8) (l : List Si) (p : Int) : seen (mine who l) who p ↔ seen l who p := by
  simp only [seen, mem_mine]
  exact ⟨fun ⟨s, ⟨h1, _⟩, h2⟩ => ⟨s, h1, h2⟩, fun ⟨s, h1, h2⟩ => ⟨s, ⟨h1, h2.1⟩, h2⟩⟩
theorem toldIn_mine (who : List UInt8) (l : List Si) : toldIn (mine who l) who ↔ toldIn l who := by
  simp only [toldIn, mem_mine]
  exact ⟨fun ⟨s, ⟨h1, _⟩, h2⟩ => ⟨s, h1, h2⟩, fun ⟨s, h1, h2⟩ => ⟨s, ⟨h1, h2⟩, h2⟩⟩
theorem sumS_mine (who : List UInt8) (l : List Si) (p : Int) : sumS (mine who l) who p = sumS l who p := by
  unfold sumS mine
  rw [List.filter_reverse, List.map_reverse, List.sum_reverse, List.filter_filter]
  congr 2
  refine List.filter_congr fun s _ => ?_
  by_cases h : s.tag = who <;> simp [h]
theorem cntE_mine (who : List UInt8) (W : List (List Si)) (p : Int) : cntE (W.map (mine who)) who p = cntE W who p := by
  unfold cntE
  rw [List.filter_map, List.length_map]
  congr 1
  refine List.filter_congr fun l _ => ?_
  simp [seen_mine]
theorem strE_mine (who : List UInt8) (W : List (List Si)) (p : Int) : strE (W.map (mine who)) who p = strE W who p := by
  unfold strE
  rw [List.map_map]
  congr 1
  exact List.map_congr_left fun l _ => sumS_mine who l p
theorem atE_mine (window need : Nat) (who : List UInt8) (L : List (List Si)) : atE window need (L.map (mine who)) who = atE window need L who := by
  unfold atE atW
  rw [List.length_map, ← List.map_drop, show cntE ((L.drop (L.length - window)).map (mine who)) who = cntE (L.drop (L.length - window)) who from funext fun p => cntE_mine who _ p,
    show strE ((L.drop (L.length - window)).map (mine who)) who = strE (L.drop (L.length - window)) who from funext fun p => strE_mine who _ p]
theorem toldE_mine (who : List UInt8) (L : List (List Si)) : toldE (L.map (mine who)) who ↔ toldE L who := by
  simp only [toldE, List.mem_map]
  constructor
  · rintro ⟨_, ⟨l, hl, rfl⟩, h⟩; exact ⟨l, hl, (toldIn_mine who l).1 h⟩
  · rintro ⟨l, hl, h⟩; exact ⟨_, ⟨l, hl, rfl⟩, (toldIn_mine who l).2 h⟩

theorem bestTo_spec (need : Nat) (cnt : Int → Nat) (st : Int → Int) : ∀ n : Nat, (bestTo need cnt st n = -1 ∧ ∀ p : Int, 0 ≤ p → p < n → cnt p < need) ∨ (0 ≤ bestTo need cnt st n ∧ bestTo need cnt st n < n ∧ need ≤ cnt (bestTo need cnt st n)) := by
  intro n
  induction n with
  | zero => exact .inl ⟨rfl, fun p h1 h2 => absurd h1 (by simp at h2; omega)⟩
  | succ n ih =>
    simp only [bestTo]
    split
    · rename_i h
      rcases ih with ⟨h1, h2⟩ | ⟨h1, h2, h3⟩
      · refine .inl ⟨h1, fun p h3 h4 => ?_⟩
        by_cases e : p = n
        · rw [e]; exact h
        · exact h2 p h3 (by omega)
      · exact .inr ⟨h1, by omega, h3⟩
    · rename_i h
      split
      · exact .inr ⟨by omega, by omega, by omega⟩
      · rename_i h4
        rcases ih with ⟨h1, h2⟩ | ⟨h1, h2, h3⟩
        · omega
        · exact .inr ⟨h1, by omega, h3⟩

/-- what TopTrack reckons over the rows that it keeps -/
structure RowI (who : List UInt8) (R : List (List Si)) (p : Int) (sn at_ one : Int) (single : Bool) : Prop where
  cnt : at_ = cntE R who p
  hn : sn = (R.filter fun l => !l.isEmpty).length
  ho : (one = -1 ∧ ∀ l ∈ R, l = []) ∨ ∃ l ∈ R, ∃ s ∈ l, s.place = one
  sg : single = true → ∀ l ∈ R, ∀ s ∈ l, s.place = one
/-- within a row -/
structure RowJ (who : List UInt8) (R : List (List Si)) (row : List Si) (p : Int) (sn at_ one : Int) (single here : Bool) : Prop where
  cnt : at_ = cntE R who p
  hn : sn = (R.filter fun l => !l.isEmpty).length
  ho : (one = -1 ∧ ∀ l ∈ R ++ [row], l = []) ∨ ∃ l ∈ R ++ [row], ∃ s ∈ l, s.place = one
  sg : single = true → ∀ l ∈ R ++ [row], ∀ s ∈ l, s.place = one
  hr : here = true ↔ ∃ s ∈ row, s.place = p

theorem RowI.j {who : List UInt8} {R : List (List Si)} {p sn at_ one : Int} {single : Bool} (h : RowI who R p sn at_ one single) : RowJ who R [] p sn at_ one single false := by
  refine ⟨h.cnt, h.hn, ?_, ?_, by simp⟩
  · rcases h.ho with ⟨h1, h2⟩ | ⟨l, hl, s, hs, e⟩
    · refine .inl ⟨h1, fun l hl => ?_⟩
      rw [List.mem_append, List.mem_singleton] at hl
      exact hl.elim (h2 l) id
    · exact .inr ⟨l, by simp [hl], s, hs, e⟩
  · intro hs l hl s hsl
    rw [List.mem_append, List.mem_singleton] at hl
    rcases hl with hl | rfl
    · exact h.sg hs l hl s hsl
    · cases hsl
theorem RowJ.step {who : List UInt8} {R : List (List Si)} {row : List Si} {p sn at_ one : Int} {single here : Bool} (h : RowJ who R row p sn at_ one single here) (s : Si) {single' here' : Bool} (h0 : ∀ l ∈ R ++ [row], ∀ s ∈ l, 0 ≤ s.place)
    (h1 : single' = true → single = true ∧ (one < 0 ∨ one = s.place)) (h2 : here' = true ↔ here = true ∨ s.place = p) : RowJ who R (row ++ [s]) p sn at_ s.place single' here' := by
  refine ⟨h.cnt, h.hn, .inr ⟨row ++ [s], by simp, s, by simp, rfl⟩, fun hs l hl x hx => ?_, ?_⟩
  · obtain ⟨k1, k2⟩ := h1 hs
    have hmem : (∃ l' ∈ R ++ [row], x ∈ l') ∨ x = s := by
      rw [List.mem_append, List.mem_singleton] at hl
      rcases hl with hl | rfl
      · exact .inl ⟨l, by simp [hl], hx⟩
      · rw [List.mem_append, List.mem_singleton] at hx
        exact hx.imp (fun hx => ⟨row, by simp, hx⟩) id
    rcases hmem with ⟨l', hl', hx'⟩ | rfl
    · have e := h.sg k1 l' hl' x hx'
      have := h0 l' hl' x hx'
      omega
    · rfl
  · rw [h2, h.hr]
    constructor
    · rintro (⟨x, hx, e⟩ | e)
      · exact ⟨x, by simp [hx], e⟩
      · exact ⟨s, by simp, e⟩
    · rintro ⟨x, hx, e⟩
      rw [List.mem_append, List.mem_singleton] at hx
      rcases hx with hx | rfl
      · exact .inl ⟨x, hx, e⟩
      · exact .inr e
theorem RowJ.i {who : List UInt8} {R : List (List Si)} {row : List Si} {p sn at_ one : Int} {single here : Bool} (h : RowJ who R row p sn at_ one single here) (hw : ∀ s ∈ row, s.tag = who) :
    RowI who (R ++ [row]) p (sn + if 0 < row.length then 1 else 0) (at_ + if here = true then 1 else 0) one single := by
  refine ⟨?_, ?_, h.ho, h.sg⟩
  · rw [cntE_snoc, h.cnt]
    have : here = true ↔ seen row who p := by
      rw [h.hr]; exact ⟨fun ⟨s, hs, e⟩ => ⟨s, hs, hw s hs, e⟩, fun ⟨s, hs, _, e⟩ => ⟨s, hs, e⟩⟩
    by_cases e : seen row who p
    · rw [if_pos (this.2 e), if_pos e]; rfl
    · rw [if_neg (fun h => e (this.1 h)), if_neg e]; rfl
  · rw [List.filter_append, List.length_append, h.hn]
    cases row <;> simp
theorem RowI.zero (who : List UInt8) (p : Int) : RowI who [] p 0 0 (-1) true := ⟨rfl, rfl, .inl ⟨rfl, by simp⟩, by simp⟩

/-- THE LAW: what is asked at the end does not come about. -/
theorem RowI.law {who : List UInt8} {R : List (List Si)} {window need : Nat} {EL : List (List Si)} {sn at_ one : Int} {single : Bool} (hR : R = EL.drop (EL.length - window)) (h : RowI who R (atE window need EL who) sn at_ one single) (hn : 1 ≤ need)
    (hg : ∀ l ∈ R, ∀ s ∈ l, 0 ≤ s.place ∧ s.place ≤ 7) (hw : ∀ l ∈ R, ∀ s ∈ l, s.tag = who) :
    ¬ ((0 ≤ atE window need EL who ∧ at_ < need) ∨ (single = true ∧ (need : Int) ≤ sn ∧ atE window need EL who ≠ one) ∨ (single = true ∧ sn < need ∧ 0 ≤ atE window need EL who)) := by
  have hA : atE window need EL who = bestTo need (cntE R who) (strE R who) 8 := by rw [hR]; rfl
  have hsp := bestTo_spec need (cntE R who) (strE R who) 8
  rw [← hA] at hsp
  generalize atE window need EL who = p at *
  have hcs : ∀ q, (cntE R who q : Int) ≤ sn := by
    intro q
    rw [h.hn]
    have : cntE R who q ≤ (R.filter fun l => !l.isEmpty).length := by
      unfold cntE
      rw [← List.countP_eq_length_filter, ← List.countP_eq_length_filter]
      refine List.countP_mono_left fun l _ hl => ?_
      obtain ⟨s, hs, _⟩ := of_decide_eq_true hl
      cases l with
      | nil => cases hs
      | cons a l => rfl
    exact_mod_cast this
  rintro (⟨h1, h2⟩ | ⟨h1, h2, h3⟩ | ⟨h1, h2, h3⟩)
  · rw [h.cnt] at h2; omega
  · have hso : ∀ l ∈ R, ∀ s ∈ l, s.place = one := h.sg h1
    have hcnt : (cntE R who one : Int) = sn := by
      rw [h.hn]; unfold cntE
      congr 2
      refine List.filter_congr fun l hl => ?_
      cases l with
      | nil => simp [seen]
      | cons a l => simp only [List.isEmpty_cons, Bool.not_false, decide_eq_true_eq]; exact ⟨a, by simp, hw _ hl a (by simp), hso _ hl a (by simp)⟩
    rcases h.ho with ⟨e, h4⟩ | ⟨l, hl, s, hs, e⟩
    · have : (R.filter fun l => !l.isEmpty) = [] := by
        rw [List.filter_eq_nil_iff]; intro l hl; simp [h4 l hl]
      have h5 := h.hn
      rw [this] at h5
      simp at h5; omega
    · have h5 := hg l hl s hs
      rw [e] at h5
      rcases hsp with ⟨h6, h7⟩ | ⟨h6, h7, h8⟩
      · have := h7 one (by omega) (by omega); omega
      · have h9 : 0 < cntE R who p := by omega
        unfold cntE at h9
        obtain ⟨l', hl'⟩ := List.exists_mem_of_length_pos h9
        rw [List.mem_filter] at hl'
        obtain ⟨x, hx, _, hp⟩ := of_decide_eq_true hl'.2
        have := hso l' hl'.1 x hx
        omega
  · rcases hsp with ⟨h6, h7⟩ | ⟨h6, h7, h8⟩
    · omega
    · have := hcs p; omega
end Go.Cw
namespace Go.Cw
open Go

structure Tk6 (h H gt go gk F : Heap) : Prop where
  hF : Heap.le h F
  lF : Heap.le F H
  lt : Heap.le gt H
  lo : Heap.le go H
  lk : Heap.le gk H
  dto : disj gt go
  dtk : disj gt gk
  dtF : disj gt F
  dok : disj go gk
  doF : disj go F
  dkF : disj gk F
theorem disj.sy {a b : Heap} (h : disj a b) : disj b a := by
  intro x hx
  cases e : a x with
  | none => rfl
  | some o => exact absurd (h x (by rw [e]; simp)) hx
theorem Tk6.le {h H gt go gk F : Heap} (k : Tk6 h H gt go gk F) : Heap.le h H := k.hF.trans k.lF
theorem Tk6.stepT {h H gt go gk F gt' H' : Heap} (k : Tk6 h H gt go gk F) (s : Step gt H gt' H') : Tk6 h H' gt' go gk F :=
  let a := s.keep k.lo k.dto.sy; let b := s.keep k.lk k.dtk.sy; let c := s.keep k.lF k.dtF.sy
  ⟨k.hF, c.1, s.le, a.1, b.1, a.2.sy, b.2.sy, c.2.sy, k.dok, k.doF, k.dkF⟩
theorem Tk6.stepO {h H gt go gk F go' H' : Heap} (k : Tk6 h H gt go gk F) (s : Step go H go' H') : Tk6 h H' gt go' gk F :=
  let a := s.keep k.lt k.dto; let b := s.keep k.lk k.dok.sy; let c := s.keep k.lF k.doF.sy
  ⟨k.hF, c.1, a.1, s.le, b.1, a.2, k.dtk, k.dtF, b.2.sy, c.2.sy, k.dkF⟩
theorem Tk6.stepK {h H gt go gk F gk' H' : Heap} (k : Tk6 h H gt go gk F) (s : Step gk H gk' H') : Tk6 h H' gt go gk' F :=
  let a := s.keep k.lt k.dtk; let b := s.keep k.lo k.dok; let c := s.keep k.lF k.dkF.sy
  ⟨k.hF, c.1, a.1, b.1, s.le, k.dto, a.2, k.dtF, b.2, k.doF, c.2.sy⟩
theorem Tk6.more {h H gt go gk F H' : Heap} (k : Tk6 h H gt go gk F) (hl : Heap.le H H') : Tk6 h H' gt go gk F :=
  ⟨k.hF, k.lF.trans hl, k.lt.trans hl, k.lo.trans hl, k.lk.trans hl, k.dto, k.dtk, k.dtF, k.dok, k.doF, k.dkF⟩
theorem disj_join {a F H H' : Heap} (ha : Heap.le a H) (hd : disj a F) : disj a (join F (fr H H')) := by
  intro x hx
  cases e : a x with
  | none => exact absurd e hx
  | some o => exact join_none (hd x hx) (fr_none (ha x o e))
theorem Tk6.freeze {h H gt go gk F H' : Heap} (k : Tk6 h H gt go gk F) (hl : Heap.le H H') : Tk6 h H' gt go gk (join F (fr H H')) :=
  ⟨k.hF.trans (join_l _ _), join_le (k.lF.trans hl) (fr_le _ _), k.lt.trans hl, k.lo.trans hl, k.lk.trans hl, k.dto, k.dtk, disj_join k.lt k.dtF, k.dok, disj_join k.lo k.doF, disj_join k.lk k.dkF⟩

theorem mine_step (who : List UInt8) {l : List Si} {j : Nat} (hj : j < l.length) : mine who (l.drop j) = mine who (l.drop (j + 1)) ++ if (l.getD j default).tag = who then [l.getD j default] else [] := by
  have : l.drop j = l.getD j default :: l.drop (j + 1) := by
    rw [List.drop_eq_getElem_cons hj]; simp [List.getD_eq_getElem?_getD, hj]
  rw [this]
  unfold mine
  rw [List.filter_cons]
  split <;> split <;> simp_all
theorem mine_len (who : List UInt8) (l : List Si) : (mine who l).length ≤ l.length := by
  unfold mine; rw [List.length_reverse]; exact List.length_filter_le _ _

theorem OwnS.slf2 {α : Type} {enc : α → List Value} {sz : Nat} (he : ∀ x, (enc x).length = sz) {h0 h : Heap} {v : Value} {l : List α} (ho : OwnS enc sz h0 h v l) : Sl enc (fr h0 h) v l :=
  SlB.sl he (ho.slb.1.same fun b hb => by simp [fr, ho.slb.2 b hb])
def S6 : Spec := fun args h K => ∃ w n v L, args = [.int .i64 w, .int .i64 n, v] ∧ SS h v L ∧ ∀ h', Heap.le h h' → K (.bool true) h'

theorem F6_ok {N : Num} {Γ : Ctx} [GoodC Γ] (H12 : Sat S12 (Γ 12)) (H28 : Sat (S28 N) (Γ 28)) (H29 : Sat (S29 N) (Γ 29)) (H30 : Sat (S30 N) (Γ 30)) (H31 : Sat S31 (Γ 31)) : Sat S6 (SF N Γ F6) := by
  rintro _ h K ⟨w, n, v, L, rfl, hL, hK⟩
  refine i_fun rfl ?_
  simp only [F6, env0, List.map, List.length, List.replicate, List.cons_append, List.nil_append, Nat.reduceSub, Nat.reduceAdd]
  have hL0 := hL
  obtain ⟨vs, hv, hvl, hr⟩ := hL
  have R := hv.rules1 id (fun _ => rfl) undef
  rw [hvl] at R
  try simp (disch := first | omega | (simp only [PL]; omega)) only [PS, P1, P2, P3, P4, P5, P6, P7, P8, PA, PB, PC, Nat.reduceAdd, Nat.reduceSub, Nat.reduceMul, Nat.reduceLeDiff, Nat.reduceEqDiff, Nat.succ_ne_self, reduceCtorEq, Int.reduceToNat, Int.cast_ofNat_Int, Int.reduceEq, Int.reduceNe, Int.reduceLT, Int.reduceLE]
  refine i_call H12 ⟨v, L, rfl, hL0, fun bb hbb => ?_⟩
  cases bb with
  | false =>
    try simp (disch := first | omega | (simp only [PL]; omega)) only [PS, P1, P2, P3, P4, P5, P6, P7, P8, PA, PB, PC, Nat.reduceAdd, Nat.reduceSub, Nat.reduceMul, Nat.reduceLeDiff, Nat.reduceEqDiff, Nat.succ_ne_self, reduceCtorEq, Int.reduceToNat, Int.cast_ofNat_Int, Int.reduceEq, Int.reduceNe, Int.reduceLT, Int.reduceLE, R]
    exact hK h (Heap.le.refl h)
  | true =>
  have hli := hbb rfl
  try simp (disch := first | omega | (simp only [PL]; omega)) only [PS, P1, P2, P3, P4, P5, P6, P7, P8, PA, PB, PC, Nat.reduceAdd, Nat.reduceSub, Nat.reduceMul, Nat.reduceLeDiff, Nat.reduceEqDiff, Nat.succ_ne_self, reduceCtorEq, Int.reduceToNat, Int.cast_ofNat_Int, Int.reduceEq, Int.reduceNe, Int.reduceLT, Int.reduceLE, R]
  refine i_cond (fun c1 => ?_) (fun c1 => ?_)
  · try simp (disch := first | omega | (simp only [PL]; omega)) only [PS, P1, P2, P3, P4, P5, P6, P7, P8, PA, PB, PC, Nat.reduceAdd, Nat.reduceSub, Nat.reduceMul, Nat.reduceLeDiff, Nat.reduceEqDiff, Nat.succ_ne_self, reduceCtorEq, Int.reduceToNat, Int.cast_ofNat_Int, Int.reduceEq, Int.reduceNe, Int.reduceLT, Int.reduceLE]
    exact hK h (Heap.le.refl h)
  try simp (disch := first | omega | (simp only [PL]; omega)) only [PS, P1, P2, P3, P4, P5, P6, P7, P8, PA, PB, PC, Nat.reduceAdd, Nat.reduceSub, Nat.reduceMul, Nat.reduceLeDiff, Nat.reduceEqDiff, Nat.succ_ne_self, reduceCtorEq, Int.reduceToNat, Int.cast_ofNat_Int, Int.reduceEq, Int.reduceNe, Int.reduceLT, Int.reduceLE]
  by_cases hnb : newBad w n
  · refine i_call H28 ⟨w, n, rfl, fun _ h1 hle1 => ?_, fun hh => absurd hnb hh⟩
    try simp (disch := first | omega | (simp only [PL]; omega)) only [PS, P1, P2, P3, P4, P5, P6, P7, P8, PA, PB, PC, Nat.reduceAdd, Nat.reduceSub, Nat.reduceMul, Nat.reduceLeDiff, Nat.reduceEqDiff, Nat.succ_ne_self, reduceCtorEq, Int.reduceToNat, Int.cast_ofNat_Int, Int.reduceEq, Int.reduceNe, Int.reduceLT, Int.reduceLE]
    refine i_call H28 ⟨w, n, rfl, fun _ h2 hle2 => ?_, fun hh => absurd hnb hh⟩
    try simp (disch := first | omega | (simp only [PL]; omega)) only [PS, P1, P2, P3, P4, P5, P6, P7, P8, PA, PB, PC, Nat.reduceAdd, Nat.reduceSub, Nat.reduceMul, Nat.reduceLeDiff, Nat.reduceEqDiff, Nat.succ_ne_self, reduceCtorEq, Int.reduceToNat, Int.cast_ofNat_Int, Int.reduceEq, Int.reduceNe, Int.reduceLT, Int.reduceLE, errV_succ]
    have : (((w < 1 ∨ 8 < w) ∨ n < 1) ∨ w < n) := by unfold newBad at hnb; omega
    rw [decide_eq_true this]
    exact hK h2 (hle1.trans hle2)
  · refine i_call H28 ⟨w, n, rfl, fun hh => absurd hh hnb, fun _ bt h1 hbt hle1 hT0 => ?_⟩
    try simp (disch := first | omega | (simp only [PL]; omega)) only [PS, P1, P2, P3, P4, P5, P6, P7, P8, PA, PB, PC, Nat.reduceAdd, Nat.reduceSub, Nat.reduceMul, Nat.reduceLeDiff, Nat.reduceEqDiff, Nat.succ_ne_self, reduceCtorEq, Int.reduceToNat, Int.cast_ofNat_Int, Int.reduceEq, Int.reduceNe, Int.reduceLT, Int.reduceLE]
    refine i_call H28 ⟨w, n, rfl, fun hh => absurd hh hnb, fun _ bo h2 hbo hle2 hO0 => ?_⟩
    have hnb' := hnb
    simp only [newBad] at hnb'
    try simp (disch := first | omega | (simp only [PL]; omega)) only [PS, P1, P2, P3, P4, P5, P6, P7, P8, PA, PB, PC, Nat.reduceAdd, Nat.reduceSub, Nat.reduceMul, Nat.reduceLeDiff, Nat.reduceEqDiff, Nat.succ_ne_self, reduceCtorEq, Int.reduceToNat, Int.cast_ofNat_Int, Int.reduceEq, Int.reduceNe, Int.reduceLT, Int.reduceLE]
    have hle02 := hle1.trans hle2
    have R2 := (hv.le hle02).rules1 id (fun _ => rfl) undef
    rw [hvl] at R2
    generalize hp : pickU _ _ _ = o
    have ho : o = some (.v (.bool (decide (0 < L.length ∧ 0 < (L.getD 0 []).length)))) := by
      rw [← hp]
      by_cases e : 0 < L.length
      · have R0 := ((hr 0 e).le hle02).rules 4 Si.enc_len default
        try simp (disch := first | omega | (simp only [PL]; omega)) only [PS, P1, P2, P3, P4, P5, P6, P7, P8, PA, PB, PC, Nat.reduceAdd, Nat.reduceSub, Nat.reduceMul, Nat.reduceLeDiff, Nat.reduceEqDiff, Nat.succ_ne_self, reduceCtorEq, Int.reduceToNat, Int.cast_ofNat_Int, Int.reduceEq, Int.reduceNe, Int.reduceLT, Int.reduceLE, R2, id, R0]
        simp
      · try simp (disch := first | omega | (simp only [PL]; omega)) only [PS, P1, P2, P3, P4, P5, P6, P7, P8, PA, PB, PC, Nat.reduceAdd, Nat.reduceSub, Nat.reduceMul, Nat.reduceLeDiff, Nat.reduceEqDiff, Nat.succ_ne_self, reduceCtorEq, Int.reduceToNat, Int.cast_ofNat_Int, Int.reduceEq, Int.reduceNe, Int.reduceLT, Int.reduceLE, R2]
        have h0 : decide ((0 : Int) < L.length) = false := decide_eq_false (by omega)
        have h00 : decide (0 < L.length ∧ 0 < (L.getD 0 []).length) = false := decide_eq_false (fun h => e h.1)
        rw [h0, h00]; rfl
    subst ho
    try simp (disch := first | omega | (simp only [PL]; omega)) only [PS, P1, P2, P3, P4, P5, P6, P7, P8, PA, PB, PC, Nat.reduceAdd, Nat.reduceSub, Nat.reduceMul, Nat.reduceLeDiff, Nat.reduceEqDiff, Nat.succ_ne_self, reduceCtorEq, Int.reduceToNat, Int.cast_ofNat_Int, Int.reduceEq, Int.reduceNe, Int.reduceLT, Int.reduceLE]
    refine i_meet_cond (fun env h3 => h3 = h2 ∧ ∃ who, env = [some (.int .i64 w), some (.int .i64 n), some v, none, some (.pointer (some ⟨bt, 0, none⟩)), none, some (.pointer (some ⟨bo, 0, none⟩)), none, some (.string (str who)), none, none, none, none, none, none, none, none, none, none, none, none, none, none, none, none, none, none, none, none, none, none, none, none, none, none, none, none, none, none, none, none, none, none, none, none, none, none, none, none, none, none, none, none, none, none, none]) ?_ ?_
    rotate_left
    · refine i_cond (fun c2 => ?_) (fun c2 => ?_)
      · have R0 := ((hr 0 c2.1).le hle02).rules 4 Si.enc_len default
        have c3 := c2.2
        try simp (disch := first | omega | (simp only [PL]; omega)) only [PS, P1, P2, P3, P4, P5, P6, P7, P8, PA, PB, PC, Nat.reduceAdd, Nat.reduceSub, Nat.reduceMul, Nat.reduceLeDiff, Nat.reduceEqDiff, Nat.succ_ne_self, reduceCtorEq, Int.reduceToNat, Int.cast_ofNat_Int, Int.reduceEq, Int.reduceNe, Int.reduceLT, Int.reduceLE, R2, id, R0, Si.enc]
        exact k_meet _ (by try simp only [Pe, and_true, true_and, and_self]) ⟨rfl, ((L.getD 0 []).getD 0 default).tag, rfl⟩
      · try simp (disch := first | omega | (simp only [PL]; omega)) only [PS, P1, P2, P3, P4, P5, P6, P7, P8, PA, PB, PC, Nat.reduceAdd, Nat.reduceSub, Nat.reduceMul, Nat.reduceLeDiff, Nat.reduceEqDiff, Nat.succ_ne_self, reduceCtorEq, Int.reduceToNat, Int.cast_ofNat_Int, Int.reduceEq, Int.reduceNe, Int.reduceLT, Int.reduceLE]
        exact k_meet _ (by try simp only [Pe, and_true, true_and, and_self]) ⟨rfl, [], rfl⟩
    rintro env h3 ⟨rfl, who, rfl⟩
    have hk0 : Tk6 h h3 (fr h h1) (fr h1 h3) (fun _ => none) h := by
      have nn : ∀ {a b : Heap} {x : Nat}, fr a b x ≠ none → a x = none := by
        intro a b x hx
        simp only [fr] at hx
        split at hx
        · assumption
        · exact absurd rfl hx
      have ns : ∀ {a b : Heap} {x : Nat}, a x ≠ none → fr a b x = none := by
        intro a b x hx
        cases e : a x with
        | none => exact absurd e hx
        | some o => exact fr_none e
      exact ⟨Heap.le.refl h, hle02, (fr_le _ _).trans hle2, fr_le _ _, fun _ _ e => (by cases e), fun x hx => ns (fun e => hx (le_none (fr_le h h1) x e)), fun _ _ => rfl, fun x hx => nn hx, fun _ _ => rfl, fun x hx => le_none hle1 x (nn hx), fun x hx => absurd rfl hx⟩
    have hwn : 1 ≤ w.toNat ∧ w.toNat ≤ 8 ∧ 1 ≤ n.toNat ∧ n.toNat ≤ w.toNat ∧ (w.toNat : Int) = w ∧ (n.toNat : Int) = n := by omega
    generalize w.toNat = window at *
    generalize n.toNat = need at *
    obtain ⟨w1, w2, n1, n2, rfl, rfl⟩ := hwn
    try simp (disch := first | omega | (simp only [PL]; omega)) only [PS, P1, P2, P3, P4, P5, P6, P7, P8, PA, PB, PC, Nat.reduceAdd, Nat.reduceSub, Nat.reduceMul, Nat.reduceLeDiff, Nat.reduceEqDiff, Nat.succ_ne_self, reduceCtorEq, Int.reduceToNat, Int.cast_ofNat_Int, Int.reduceEq, Int.reduceNe, Int.reduceLT, Int.reduceLE]
    refine i_meet_blk (fun env H => ∃ gt go kv, TrO gt bt window need L ∧ Heap.le gt H ∧ TrO go bo window need (L.map (mine who)) ∧ Heap.le go H ∧ SS H kv (L.map (mine who)) ∧ Heap.le h H ∧ (∀ l ∈ L, ∀ s ∈ l, ¬ s.bad) ∧ env = [some (.int .i64 window), some (.int .i64 need), some v, none, some (.pointer (some ⟨bt, 0, none⟩)), none, some (.pointer (some ⟨bo, 0, none⟩)), none, some (.string (str who)), some kv, none, none, none, none, none, none, none, none, none, none, none, none, none, none, none, none, none, none, none, none, none, none, none, none, none, none, none, none, none, none, none, none, none, none, none, none, none, none, none, none, none, none, none, none, none, none]) ?_ ?_
    rotate_left
    · refine i_loop (fun s : Nat × Value => [some (.int .i64 window), some (.int .i64 need), some v, none, some (.pointer (some ⟨bt, 0, none⟩)), none, some (.pointer (some ⟨bo, 0, none⟩)), none, some (.string (str who)), some s.2, some (.int .i64 s.1), none, none, none, none, none, none, none, none, none, none, none, none, none, none, none, none, none, none, none, none, none, none, none, none, none, none, none, none, none, none, none, none, none, none, none, none, none, none, none, none, none, none, none, none, none])
        (fun s H => ∃ gt go gk F ms, Tk6 h H gt go gk F ∧ TrO gt bt window need (L.take s.1) ∧ TrO go bo window need ((L.take s.1).map (mine who)) ∧ SlB encV 1 gk s.2 ms ∧ s.1 ≤ L.length ∧ ms.length = s.1 ∧ (∀ j, j < s.1 → Sl Si.enc F (ms.getD j undef) (mine who (L.getD j []))) ∧ ∀ l ∈ L.take s.1, ∀ s ∈ l, ¬ s.bad)
        (fun s => L.length - s.1) (0, .slice none 0 0) (by try simp only [Pe, and_true, true_and, and_self]; rfl) ⟨_, _, _, _, [], hk0, hT0, hO0, SlB.nil, by omega, rfl, by simp, by simp⟩ ?_
      rintro ⟨i, kv⟩ H ⟨gt, go, gk, F, ms, hk, hT, hO, hK6, hi, hms, hrows, hgood⟩
      dsimp only at hT hO hK6 hi hms hrows hgood
      have RH := (hv.le hk.le).rules1 id (fun _ => rfl) undef
      rw [hvl] at RH
      try simp (disch := first | omega | (simp only [PL]; omega)) only [PS, P1, P2, P3, P4, P5, P6, P7, P8, PA, PB, PC, Nat.reduceAdd, Nat.reduceSub, Nat.reduceMul, Nat.reduceLeDiff, Nat.reduceEqDiff, Nat.succ_ne_self, reduceCtorEq, Int.reduceToNat, Int.cast_ofNat_Int, Int.reduceEq, Int.reduceNe, Int.reduceLT, Int.reduceLE, RH]
      refine i_cond (fun c2 => ?_) (fun c2 => ?_)
      rotate_left
      · try simp (disch := first | omega | (simp only [PL]; omega)) only [PS, P1, P2, P3, P4, P5, P6, P7, P8, PA, PB, PC, Nat.reduceAdd, Nat.reduceSub, Nat.reduceMul, Nat.reduceLeDiff, Nat.reduceEqDiff, Nat.succ_ne_self, reduceCtorEq, Int.reduceToNat, Int.cast_ofNat_Int, Int.reduceEq, Int.reduceNe, Int.reduceLT, Int.reduceLE]
        have : i = L.length := by omega
        subst this
        rw [List.take_length] at hT hO hgood
        refine k_meet _ (by try simp only [Pe, and_true, true_and, and_self]) ⟨gt, go, kv, hT, hk.lt, hO, hk.lo, ⟨ms, (SlB.sl (enc := encV) (sz := 1) (fun _ => rfl) hK6).le hk.lk, by rw [hms, List.length_map], fun j hj => ?_⟩, hk.le, hgood, rfl⟩
        rw [List.length_map] at hj
        have := (hrows j hj).le hk.lF
        have e : (L.map (mine who)).getD j [] = mine who (L.getD j []) := by simp [List.getD_eq_getElem?_getD, hj]
        rw [e]; exact this
      have hi2 : i < L.length := by omega
      have hrl : (L.getD i []).length ≤ 25 := hli.2 _ (getD_mem [] hi2)
      have htk := take_succ_d [] hi2 (l := L)
      have hTok : ∀ ll : List (List Si), ll.length ≤ 25 → (∀ l ∈ ll, (∀ s ∈ l, ¬ s.bad) ∧ l.length ≤ 25) → TrOk window need ll := fun ll h1 h2 => ⟨⟨w1, w2⟩, ⟨n1, n2⟩, by omega, fun l hl => ⟨(h2 l hl).1, by have := (h2 l hl).2; omega⟩⟩
      have hl25 := hli.1
      have htl : (L.take i).length = i := by rw [List.length_take]; omega
      try simp (disch := first | omega | (simp only [PL]; omega)) only [PS, P1, P2, P3, P4, P5, P6, P7, P8, PA, PB, PC, Nat.reduceAdd, Nat.reduceSub, Nat.reduceMul, Nat.reduceLeDiff, Nat.reduceEqDiff, Nat.succ_ne_self, reduceCtorEq, Int.reduceToNat, Int.cast_ofNat_Int, Int.reduceEq, Int.reduceNe, Int.reduceLT, Int.reduceLE, RH, id]
      refine i_call H29 ⟨bt, _, L.getD i [], gt, window, need, L.take i, rfl, (hr i hi2).le hk.le, hT, hk.lt, hTok _ (by omega) (fun l hl => ⟨hgood l hl, hli.2 l (List.mem_of_mem_take hl)⟩), by omega, by omega, fun _ H1 hleH => ?_, fun hgd H1 gt1 St1 hT1 => ?_⟩
      · try simp (disch := first | omega | (simp only [PL]; omega)) only [PS, P1, P2, P3, P4, P5, P6, P7, P8, PA, PB, PC, Nat.reduceAdd, Nat.reduceSub, Nat.reduceMul, Nat.reduceLeDiff, Nat.reduceEqDiff, Nat.succ_ne_self, reduceCtorEq, Int.reduceToNat, Int.cast_ofNat_Int, Int.reduceEq, Int.reduceNe, Int.reduceLT, Int.reduceLE, errV_succ]
        exact hK H1 (hk.le.trans hleH)
      have hk1 := hk.stepT St1
      rw [← htk] at hT1
      have hgood1 : ∀ l ∈ L.take (i + 1), ∀ s ∈ l, ¬ s.bad := by
        intro l hl
        rw [htk, List.mem_append, List.mem_singleton] at hl
        rcases hl with hl | rfl
        · exact hgood l hl
        · exact hgd
      have Rv := (hv.le hk1.le).rules1 id (fun _ => rfl) undef
      rw [hvl] at Rv
      have Rr := ((hr i hi2).le hk1.le).rules 4 Si.enc_len default
      have hw1 : IntKind.i64.wrap (((L.getD i []).length : Int) - 1) = ((L.getD i []).length : Int) - 1 := w64 (by omega) (by omega)
      try simp (disch := first | omega | (simp only [PL]; omega)) only [PS, P1, P2, P3, P4, P5, P6, P7, P8, PA, PB, PC, Nat.reduceAdd, Nat.reduceSub, Nat.reduceMul, Nat.reduceLeDiff, Nat.reduceEqDiff, Nat.succ_ne_self, reduceCtorEq, Int.reduceToNat, Int.cast_ofNat_Int, Int.reduceEq, Int.reduceNe, Int.reduceLT, Int.reduceLE, Rv, id, Rr, hw1]
      refine i_loop (fun s : Nat × Value => [some (.int .i64 window), some (.int .i64 need), some v, none, some (.pointer (some ⟨bt, 0, none⟩)), none, some (.pointer (some ⟨bo, 0, none⟩)), none, some (.string (str who)), some kv, some (.int .i64 i), some s.2, some (.int .i64 ((s.1 : Int) - 1)), none, none, none, none, none, none, none, none, none, none, none, none, none, none, none, none, none, none, none, none, none, none, none, none, none, none, none, none, none, none, none, none, none, none, none, none, none, none, none, none, none, none, none])
        (fun s H2 => s.1 ≤ (L.getD i []).length ∧ OwnS Si.enc 4 H1 H2 s.2 (mine who ((L.getD i []).drop s.1)))
        (fun s => s.1) ((L.getD i []).length, .slice none 0 0) (by try simp only [Pe, and_true, true_and, and_self]) ⟨Nat.le_refl _, by rw [List.drop_length]; exact OwnS.nil (Heap.le.refl H1)⟩ ?_
      rintro ⟨j, mv⟩ H2 ⟨hj, ho2⟩
      dsimp only at hj ho2
      have hle12 := ho2.1
      have O1 := ho2.slb.1.one
      have Rv2 := (hv.le (hk1.le.trans hle12)).rules1 id (fun _ => rfl) undef
      rw [hvl] at Rv2
      have Rr2 := ((hr i hi2).le (hk1.le.trans hle12)).rules 4 Si.enc_len default
      try simp (disch := first | omega | (simp only [PL]; omega)) only [PS, P1, P2, P3, P4, P5, P6, P7, P8, PA, PB, PC, Nat.reduceAdd, Nat.reduceSub, Nat.reduceMul, Nat.reduceLeDiff, Nat.reduceEqDiff, Nat.succ_ne_self, reduceCtorEq, Int.reduceToNat, Int.cast_ofNat_Int, Int.reduceEq, Int.reduceNe, Int.reduceLT, Int.reduceLE]
      refine i_cond (fun c4 => ?_) (fun c4 => ?_)
      · obtain ⟨j, rfl⟩ : ∃ j', j = j' + 1 := ⟨j - 1, by omega⟩
        have hms := mine_step who (show j < (L.getD i []).length by omega)
        have e1 : (((j + 1 : Nat) : Int) - 1) = (j : Int) := by omega
        have hw2 : IntKind.i64.wrap ((j : Int) - 1) = (j : Int) - 1 := w64 (by omega) (by omega)
        rw [e1]
        try simp (disch := first | omega | (simp only [PL]; omega)) only [PS, P1, P2, P3, P4, P5, P6, P7, P8, PA, PB, PC, Nat.reduceAdd, Nat.reduceSub, Nat.reduceMul, Nat.reduceLeDiff, Nat.reduceEqDiff, Nat.succ_ne_self, reduceCtorEq, Int.reduceToNat, Int.cast_ofNat_Int, Int.reduceEq, Int.reduceNe, Int.reduceLT, Int.reduceLE, Rv2, id, Rr2, Si.enc]
        refine i_cond (fun c5 => ?_) (fun c5 => ?_)
        · rw [if_pos c5] at hms
          try simp (disch := first | omega | (simp only [PL]; omega)) only [PS, P1, P2, P3, P4, P5, P6, P7, P8, PA, PB, PC, Nat.reduceAdd, Nat.reduceSub, Nat.reduceMul, Nat.reduceLeDiff, Nat.reduceEqDiff, Nat.succ_ne_self, reduceCtorEq, Int.reduceToNat, Int.cast_ofNat_Int, Int.reduceEq, Int.reduceNe, Int.reduceLT, Int.reduceLE, Rv2, id, Rr2, Si.enc, O1.1, O1.2]
          refine i_bslB Si.enc 4 Si.enc_len [(L.getD i []).getD j default] rfl rfl (by simp [maxLen]) fun x1 b1 H3 hle3 hb1 hx1 hS1 => ?_
          have O2 := hS1.one
          try simp (disch := first | omega | (simp only [PL]; omega)) only [PS, P1, P2, P3, P4, P5, P6, P7, P8, PA, PB, PC, Nat.reduceAdd, Nat.reduceSub, Nat.reduceMul, Nat.reduceLeDiff, Nat.reduceEqDiff, Nat.succ_ne_self, reduceCtorEq, Int.reduceToNat, Int.cast_ofNat_Int, Int.reduceEq, Int.reduceNe, Int.reduceLT, Int.reduceLE, O2.1, O2.2]
          have hml := mine_len who ((L.getD i []).drop (j + 1))
          rw [List.length_drop] at hml
          refine i_app1 Si.enc_len (fun x _ => Si.enc_one x) (ho2.le hle3) (SlB.sl Si.enc_len (hS1.le (fr_le _ _))) (by simp only [List.length_singleton]; omega) fun v4 H4 ho4 => ?_
          have O3 := ho4.slb.1.one
          try simp (disch := first | omega | (simp only [PL]; omega)) only [PS, P1, P2, P3, P4, P5, P6, P7, P8, PA, PB, PC, Nat.reduceAdd, Nat.reduceSub, Nat.reduceMul, Nat.reduceLeDiff, Nat.reduceEqDiff, Nat.succ_ne_self, reduceCtorEq, Int.reduceToNat, Int.cast_ofNat_Int, Int.reduceEq, Int.reduceNe, Int.reduceLT, Int.reduceLE, O3.1, O3.2, hw2]
          refine k_loop (j, v4) (by simp) (by try simp only [Pe, and_true, true_and, and_self]) ⟨by omega, ?_⟩
          rw [hms]; exact ho4
        · rw [if_neg c5, List.append_nil] at hms
          try simp (disch := first | omega | (simp only [PL]; omega)) only [PS, P1, P2, P3, P4, P5, P6, P7, P8, PA, PB, PC, Nat.reduceAdd, Nat.reduceSub, Nat.reduceMul, Nat.reduceLeDiff, Nat.reduceEqDiff, Nat.succ_ne_self, reduceCtorEq, Int.reduceToNat, Int.cast_ofNat_Int, Int.reduceEq, Int.reduceNe, Int.reduceLT, Int.reduceLE, hw2]
          refine k_loop (j, mv) (by simp) (by try simp only [Pe, and_true, true_and, and_self]) ⟨by omega, ?_⟩
          rw [hms]; exact ho2
      · have : j = 0 := by omega
        subst this
        rw [List.drop_zero] at ho2
        have hml := mine_len who (L.getD i [])
        have hk2 := hk1.freeze hle12
        have hmv : Sl Si.enc (join F (fr H1 H2)) mv (mine who (L.getD i [])) := (OwnS.slf2 Si.enc_len ho2).le (join_r (hk1.lF.trans hle12) (fr_le _ _))
        try simp (disch := first | omega | (simp only [PL]; omega)) only [PS, P1, P2, P3, P4, P5, P6, P7, P8, PA, PB, PC, Nat.reduceAdd, Nat.reduceSub, Nat.reduceMul, Nat.reduceLeDiff, Nat.reduceEqDiff, Nat.succ_ne_self, reduceCtorEq, Int.reduceToNat, Int.cast_ofNat_Int, Int.reduceEq, Int.reduceNe, Int.reduceLT, Int.reduceLE, O1.1, O1.2]
        refine i_bslB encV 1 (fun _ => rfl) [mv] rfl rfl (by simp [maxLen]) fun x1 b1 H3 hle3 hb1 hx1 hS1 => ?_
        have O2 := hS1.one
        have hk3 := hk2.more hle3
        have Ok := hK6.one
        try simp (disch := first | omega | (simp only [PL]; omega)) only [PS, P1, P2, P3, P4, P5, P6, P7, P8, PA, PB, PC, Nat.reduceAdd, Nat.reduceSub, Nat.reduceMul, Nat.reduceLeDiff, Nat.reduceEqDiff, Nat.succ_ne_self, reduceCtorEq, Int.reduceToNat, Int.cast_ofNat_Int, Int.reduceEq, Int.reduceNe, Int.reduceLT, Int.reduceLE, O2.1, O2.2, Ok.1, Ok.2]
        refine i_appB (enc := encV) (sz := 1) (g := gk) (l := ms) (l' := [mv]) (fun _ => rfl) (by simp [encV, O1.1]) hK6 hk3.lk (SlB.sl (enc := encV) (sz := 1) (fun _ => rfl) (hS1.le (fr_le _ _))) (by simp; omega) fun kv4 H4 gk4 hS4 St4 e1 e2 e3 => ?_
        have hk4 := hk3.stepK St4
        have O4 := hS4.one
        have hmgood : ∀ s ∈ mine who (L.getD i []), ¬ s.bad := fun s hs => hgd s (mem_mine.1 hs).1
        have hmap : (L.take (i + 1)).map (mine who) = (L.take i).map (mine who) ++ [mine who (L.getD i [])] := by rw [htk, List.map_append]; rfl
        try simp (disch := first | omega | (simp only [PL]; omega)) only [PS, P1, P2, P3, P4, P5, P6, P7, P8, PA, PB, PC, Nat.reduceAdd, Nat.reduceSub, Nat.reduceMul, Nat.reduceLeDiff, Nat.reduceEqDiff, Nat.succ_ne_self, reduceCtorEq, Int.reduceToNat, Int.cast_ofNat_Int, Int.reduceEq, Int.reduceNe, Int.reduceLT, Int.reduceLE, O4.1, O4.2]
        refine i_call H29 ⟨bo, _, mine who (L.getD i []), go, window, need, (L.take i).map (mine who), rfl, hmv.le hk4.lF, hO, hk4.lo, hTok _ (by rw [List.length_map]; omega) (fun l hl => ?_), by rw [List.length_map]; omega, by omega, fun hb => absurd hb ?_, fun _ H5 go5 St5 hO5 => ?_⟩
        · obtain ⟨l', hl', rfl⟩ := List.mem_map.1 hl
          have := mine_len who l'
          have := hli.2 l' (List.mem_of_mem_take hl')
          exact ⟨fun s hs => hgood l' hl' s (mem_mine.1 hs).1, by omega⟩
        · rintro ⟨s, hs, hb⟩
          exact hmgood s hs hb
        have hk5 := hk4.stepO St5
        rw [← hmap] at hO5
        try simp (disch := first | omega | (simp only [PL]; omega)) only [PS, P1, P2, P3, P4, P5, P6, P7, P8, PA, PB, PC, Nat.reduceAdd, Nat.reduceSub, Nat.reduceMul, Nat.reduceLeDiff, Nat.reduceEqDiff, Nat.succ_ne_self, reduceCtorEq, Int.reduceToNat, Int.cast_ofNat_Int, Int.reduceEq, Int.reduceNe, Int.reduceLT, Int.reduceLE]
        refine k_loop (i + 1, kv4) (by simp; omega) (by try simp only [Pe, and_true, true_and, and_self]) ⟨_, _, _, _, ms ++ [mv], hk5, hT1, hO5, hS4, by omega, by simp [hms], fun j hj => ?_, hgood1⟩
        by_cases e : j < i
        · have e1 : (ms ++ [mv]).getD j undef = ms.getD j undef := by simp [List.getD_eq_getElem?_getD, List.getElem?_append_left (show j < ms.length by omega)]
          rw [e1]; exact (hrows j e).le (join_l _ _)
        · have : j = i := by omega
          subst this
          have e1 : (ms ++ [mv]).getD j undef = mv := by simp [List.getD_eq_getElem?_getD, ← hms]
          rw [e1]; exact hmv
    · rintro env H ⟨gt, go, kv, hT, hgt, hO, hgo, ⟨ms, m1, m2, m3⟩, hle, hgood, rfl⟩
      have RM := m1.rules1 id (fun _ => rfl) undef
      rw [m2, List.length_map] at RM
      rw [List.length_map] at m3
      have RH := (hv.le hle).rules1 id (fun _ => rfl) undef
      rw [hvl] at RH
      have hl25 := hli.1
      try simp (disch := first | omega | (simp only [PL]; omega)) only [PS, P1, P2, P3, P4, P5, P6, P7, P8, PA, PB, PC, Nat.reduceAdd, Nat.reduceSub, Nat.reduceMul, Nat.reduceLeDiff, Nat.reduceEqDiff, Nat.succ_ne_self, reduceCtorEq, Int.reduceToNat, Int.cast_ofNat_Int, Int.reduceEq, Int.reduceNe, Int.reduceLT, Int.reduceLE]
      refine i_loop (fun e : Nat => [some (.int .i64 window), some (.int .i64 need), some v, none, some (.pointer (some ⟨bt, 0, none⟩)), none, some (.pointer (some ⟨bo, 0, none⟩)), none, some (.string (str who)), some kv, none, none, none, some (.int .i64 e), none, none, none, none, none, none, none, none, none, none, none, none, none, none, none, none, none, none, none, none, none, none, none, none, none, none, none, none, none, none, none, none, none, none, none, none, none, none, none, none, none, none])
        (fun e H' => H' = H ∧ e ≤ L.length) (fun e => L.length - e) 0 (by try simp only [Pe, and_true, true_and, and_self]; rfl) ⟨rfl, by omega⟩ ?_
      rintro e H' ⟨rfl, he⟩
      try simp (disch := first | omega | (simp only [PL]; omega)) only [PS, P1, P2, P3, P4, P5, P6, P7, P8, PA, PB, PC, Nat.reduceAdd, Nat.reduceSub, Nat.reduceMul, Nat.reduceLeDiff, Nat.reduceEqDiff, Nat.succ_ne_self, reduceCtorEq, Int.reduceToNat, Int.cast_ofNat_Int, Int.reduceEq, Int.reduceNe, Int.reduceLT, Int.reduceLE, RM]
      refine i_cond (fun c2 => ?_) (fun c2 => ?_)
      rotate_left
      · try simp (disch := first | omega | (simp only [PL]; omega)) only [PS, P1, P2, P3, P4, P5, P6, P7, P8, PA, PB, PC, Nat.reduceAdd, Nat.reduceSub, Nat.reduceMul, Nat.reduceLeDiff, Nat.reduceEqDiff, Nat.succ_ne_self, reduceCtorEq, Int.reduceToNat, Int.cast_ofNat_Int, Int.reduceEq, Int.reduceNe, Int.reduceLT, Int.reduceLE]
        refine i_call H31 ⟨gt, bt, window, need, L, rfl, hT, hgt, ?_⟩
        try simp (disch := first | omega | (simp only [PL]; omega)) only [PS, P1, P2, P3, P4, P5, P6, P7, P8, PA, PB, PC, Nat.reduceAdd, Nat.reduceSub, Nat.reduceMul, Nat.reduceLeDiff, Nat.reduceEqDiff, Nat.succ_ne_self, reduceCtorEq, Int.reduceToNat, Int.cast_ofNat_Int, Int.reduceEq, Int.reduceNe, Int.reduceLT, Int.reduceLE, RH]
        exact hK _ hle
      have he2 : e < L.length := by omega
      by_cases ht : toldE L who
      · try simp (disch := first | omega | (simp only [PL]; omega)) only [PS, P1, P2, P3, P4, P5, P6, P7, P8, PA, PB, PC, Nat.reduceAdd, Nat.reduceSub, Nat.reduceMul, Nat.reduceLeDiff, Nat.reduceEqDiff, Nat.succ_ne_self, reduceCtorEq, Int.reduceToNat, Int.cast_ofNat_Int, Int.reduceEq, Int.reduceNe, Int.reduceLT, Int.reduceLE]
        refine i_call H30 ⟨gt, bt, window, need, L, who, e, rfl, hT, hgt, fun h => absurd h (by omega), fun _ _ h => absurd ht h, fun _ _ _ => ?_⟩
        try simp (disch := first | omega | (simp only [PL]; omega)) only [PS, P1, P2, P3, P4, P5, P6, P7, P8, PA, PB, PC, Nat.reduceAdd, Nat.reduceSub, Nat.reduceMul, Nat.reduceLeDiff, Nat.reduceEqDiff, Nat.succ_ne_self, reduceCtorEq, Int.reduceToNat, Int.cast_ofNat_Int, Int.reduceEq, Int.reduceNe, Int.reduceLT, Int.reduceLE]
        refine i_call H30 ⟨go, bo, window, need, L.map (mine who), who, e, rfl, hO, hgo, fun h => absurd h (by rw [List.length_map]; omega), fun _ _ h => absurd ((toldE_mine who L).2 ht) h, fun _ _ _ => ?_⟩
        have hte : ((e : Int).toNat) = e := by omega
        rw [← List.map_take, atE_mine, hte]
        have hlaw := fun sn at_ one single => RowI.law (who := who) (window := window) (need := need) (EL := (L.map (mine who)).take (e + 1)) (sn := sn) (at_ := at_) (one := one) (single := single) rfl
        rw [← List.map_take, atE_mine, List.length_map, show (L.take (e + 1)).length = e + 1 by rw [List.length_take]; omega] at hlaw
        have hpr : -1 ≤ atE window need (L.take (e + 1)) who ∧ atE window need (L.take (e + 1)) who < 8 := bestTo_range ..
        generalize hp : atE window need (L.take (e + 1)) who = p at *
        have hw3 : IntKind.i64.wrap ((e : Int) - window) = (e : Int) - window := w64 (by omega) (by omega)
        have hw4 : IntKind.i64.wrap ((e : Int) - window + 1) = (e : Int) - window + 1 := w64 (by omega) (by omega)
        have hmaxe : max (0 : Int) ((e : Int) - window + 1) = ((e + 1 - window : Nat) : Int) := by omega
        try simp (disch := first | omega | (simp only [PL]; omega)) only [PS, P1, P2, P3, P4, P5, P6, P7, P8, PA, PB, PC, Nat.reduceAdd, Nat.reduceSub, Nat.reduceMul, Nat.reduceLeDiff, Nat.reduceEqDiff, Nat.succ_ne_self, reduceCtorEq, Int.reduceToNat, Int.cast_ofNat_Int, Int.reduceEq, Int.reduceNe, Int.reduceLT, Int.reduceLE, hw3, hw4, hmaxe]
        generalize hlo : e + 1 - window = lo at *
        refine i_loop (fun s : Nat × Int × Int × Int × Bool => [some (.int .i64 window), some (.int .i64 need), some v, none, some (.pointer (some ⟨bt, 0, none⟩)), none, some (.pointer (some ⟨bo, 0, none⟩)), none, some (.string (str who)), some kv, none, none, none, some (.int .i64 e), some (.int .i64 p), none, none, none, some (.int .i64 s.2.1), some (.int .i64 s.2.2.1), some (.int .i64 s.2.2.2.1), some (.bool (decide (s.2.2.2.2 = true))), some (.int .i64 s.1), none, none, none, none, none, none, none, none, none, none, none, none, none, none, none, none, none, none, none, none, none, none, none, none, none, none, none, none, none, none, none, none, none])
          (fun s H1 => H1 = H' ∧ lo ≤ s.1 ∧ s.1 ≤ e + 1 ∧ 0 ≤ s.2.1 ∧ s.2.1 ≤ s.1 ∧ 0 ≤ s.2.2.1 ∧ s.2.2.1 ≤ s.1 ∧ RowI who (((L.take s.1).map (mine who)).drop lo) p s.2.1 s.2.2.1 s.2.2.2.1 s.2.2.2.2)
          (fun s => e + 1 - s.1) (lo, 0, 0, -1, true) (by try simp only [Pe, and_true, true_and, and_self]; simp) ⟨rfl, Nat.le_refl _, by dsimp only; omega, by dsimp only; omega, by dsimp only; omega, by dsimp only; omega, by dsimp only; omega, ?_⟩ ?_
        · have : ((L.take lo).map (mine who)).drop lo = [] := by
            refine List.drop_eq_nil_of_le ?_
            rw [List.length_map, List.length_take]; omega
          rw [this]; exact RowI.zero who p
        rintro ⟨k, sn, at_, one, single⟩ H1 ⟨rfl, hk1, hk2, hs1, hs2, ha1, ha2, hI⟩
        dsimp only at hk1 hk2 hs1 hs2 ha1 ha2 hI
        have hRg : ∀ k', ∀ l ∈ ((L.take k').map (mine who)).drop lo, (∀ s ∈ l, 0 ≤ s.place ∧ s.place ≤ 7) ∧ ∀ s ∈ l, s.tag = who := by
          intro k' l hl
          obtain ⟨l', hl', rfl⟩ := List.mem_map.1 (List.mem_of_mem_drop hl)
          refine ⟨fun s hs => ?_, fun s hs => (mem_mine.1 hs).2⟩
          have := hgood l' (List.mem_of_mem_take hl') s (mem_mine.1 hs).1
          simp only [Si.bad] at this; omega
        try simp (disch := first | omega | (simp only [PL]; omega)) only [PS, P1, P2, P3, P4, P5, P6, P7, P8, PA, PB, PC, Nat.reduceAdd, Nat.reduceSub, Nat.reduceMul, Nat.reduceLeDiff, Nat.reduceEqDiff, Nat.succ_ne_self, reduceCtorEq, Int.reduceToNat, Int.cast_ofNat_Int, Int.reduceEq, Int.reduceNe, Int.reduceLT, Int.reduceLE]
        refine i_cond (fun c3 => ?_) (fun c3 => ?_)
        rotate_left
        · have : k = e + 1 := by omega
          subst this
          have hl := hlaw sn at_ one single hI n1 (fun l hl => (hRg _ l hl).1) (fun l hl => (hRg _ l hl).2)
          try simp (disch := first | omega | (simp only [PL]; omega)) only [PS, P1, P2, P3, P4, P5, P6, P7, P8, PA, PB, PC, Nat.reduceAdd, Nat.reduceSub, Nat.reduceMul, Nat.reduceLeDiff, Nat.reduceEqDiff, Nat.succ_ne_self, reduceCtorEq, Int.reduceToNat, Int.cast_ofNat_Int, Int.reduceEq, Int.reduceNe, Int.reduceLT, Int.reduceLE]
          refine i_cond (fun c5 => absurd ?_ hl) (fun c5 => ?_)
          · rcases c5 with (h1 | ⟨⟨h1, h2⟩, h3⟩) | ⟨⟨h1, h2⟩, h3⟩
            · exact .inl h1
            · exact .inr (.inl ⟨h1, h2, h3⟩)
            · exact .inr (.inr ⟨h1, h2, h3⟩)
          · try simp (disch := first | omega | (simp only [PL]; omega)) only [PS, P1, P2, P3, P4, P5, P6, P7, P8, PA, PB, PC, Nat.reduceAdd, Nat.reduceSub, Nat.reduceMul, Nat.reduceLeDiff, Nat.reduceEqDiff, Nat.succ_ne_self, reduceCtorEq, Int.reduceToNat, Int.cast_ofNat_Int, Int.reduceEq, Int.reduceNe, Int.reduceLT, Int.reduceLE]
            exact k_loop (e + 1) (by omega) (by try simp only [Pe, and_true, true_and, and_self]) ⟨rfl, by omega⟩
        have hk3 : k < L.length := by omega
        have hrow := m3 k hk3
        rw [show (L.map (mine who)).getD k [] = mine who (L.getD k []) by simp [List.getD_eq_getElem?_getD, hk3]] at hrow
        have Rk := hrow.rules 4 Si.enc_len default
        have hml := mine_len who (L.getD k [])
        have hrl : (L.getD k []).length ≤ 25 := hli.2 _ (getD_mem [] hk3)
        have hsnoc : ((L.take (k + 1)).map (mine who)).drop lo = ((L.take k).map (mine who)).drop lo ++ [mine who (L.getD k [])] := by
          rw [take_succ_d [] hk3, List.map_append, List.drop_append_of_le_length (by rw [List.length_map, List.length_take]; omega)]; rfl
        have hRk := hRg (k + 1)
        rw [hsnoc] at hRk
        generalize ((L.take k).map (mine who)).drop lo = R' at *
        generalize mine who (L.getD k []) = row at *
        try simp (disch := first | omega | (simp only [PL]; omega)) only [PS, P1, P2, P3, P4, P5, P6, P7, P8, PA, PB, PC, Nat.reduceAdd, Nat.reduceSub, Nat.reduceMul, Nat.reduceLeDiff, Nat.reduceEqDiff, Nat.succ_ne_self, reduceCtorEq, Int.reduceToNat, Int.cast_ofNat_Int, Int.reduceEq, Int.reduceNe, Int.reduceLT, Int.reduceLE]
        refine i_loop (fun s : Nat × Int × Bool × Bool => [some (.int .i64 window), some (.int .i64 need), some v, none, some (.pointer (some ⟨bt, 0, none⟩)), none, some (.pointer (some ⟨bo, 0, none⟩)), none, some (.string (str who)), some kv, none, none, none, some (.int .i64 e), some (.int .i64 p), none, none, none, some (.int .i64 sn), some (.int .i64 at_), some (.int .i64 s.2.1), some (.bool (decide (s.2.2.1 = true))), some (.int .i64 k), some (.bool (decide (s.2.2.2 = true))), some (.int .i64 s.1), none, none, none, none, none, none, none, none, none, none, none, none, none, none, none, none, none, none, none, none, none, none, none, none, none, none, none, none, none, none, none])
          (fun s H2 => H2 = H1 ∧ s.1 ≤ row.length ∧ RowJ who R' (row.take s.1) p sn at_ s.2.1 s.2.2.1 s.2.2.2)
          (fun s => row.length - s.1) (0, one, single, false) (by try simp only [Pe, and_true, true_and, and_self]; simp) ⟨rfl, by dsimp only; omega, by rw [List.take_zero]; exact hI.j⟩ ?_
        rintro ⟨j, one, single, here⟩ H2 ⟨rfl, hj, hJ⟩
        dsimp only at hj hJ
        try simp (disch := first | omega | (simp only [PL]; omega)) only [PS, P1, P2, P3, P4, P5, P6, P7, P8, PA, PB, PC, Nat.reduceAdd, Nat.reduceSub, Nat.reduceMul, Nat.reduceLeDiff, Nat.reduceEqDiff, Nat.succ_ne_self, reduceCtorEq, Int.reduceToNat, Int.cast_ofNat_Int, Int.reduceEq, Int.reduceNe, Int.reduceLT, Int.reduceLE, RM, id, Rk]
        refine i_cond (fun c4 => ?_) (fun c4 => ?_)
        · have hj2 : j < row.length := by omega
          try simp (disch := first | omega | (simp only [PL]; omega)) only [PS, P1, P2, P3, P4, P5, P6, P7, P8, PA, PB, PC, Nat.reduceAdd, Nat.reduceSub, Nat.reduceMul, Nat.reduceLeDiff, Nat.reduceEqDiff, Nat.succ_ne_self, reduceCtorEq, Int.reduceToNat, Int.cast_ofNat_Int, Int.reduceEq, Int.reduceNe, Int.reduceLT, Int.reduceLE, RM, id, Rk, Si.enc]
          refine k_loop (j + 1, (row.getD j default).place, decide (single = true ∧ (one < 0 ∨ one = (row.getD j default).place)), decide (here = true ∨ (row.getD j default).place = p)) (by dsimp only; omega) (by try simp only [Pe, and_true, true_and, and_self]; simp) ⟨rfl, by dsimp only; omega, ?_⟩
          dsimp only
          rw [take_succ_d default hj2]
          refine hJ.step _ (fun l hl s hs => ?_) (fun h => of_decide_eq_true h) (by simp)
          rw [List.mem_append, List.mem_singleton] at hl
          rcases hl with hl | rfl
          · exact ((hRk l (by simp [hl])).1 s hs).1
          · exact ((hRk row (by simp)).1 s (List.mem_of_mem_take hs)).1
        · have : j = row.length := by omega
          subst this
          rw [List.take_length] at hJ
          have hI' := hJ.i (hRk row (by simp)).2
          rw [← hsnoc] at hI'
          have hws : IntKind.i64.wrap (sn + 1) = sn + 1 := w64 (by omega) (by omega)
          have hwa : IntKind.i64.wrap (at_ + 1) = at_ + 1 := w64 (by omega) (by omega)
          try simp (disch := first | omega | (simp only [PL]; omega)) only [PS, P1, P2, P3, P4, P5, P6, P7, P8, PA, PB, PC, Nat.reduceAdd, Nat.reduceSub, Nat.reduceMul, Nat.reduceLeDiff, Nat.reduceEqDiff, Nat.succ_ne_self, reduceCtorEq, Int.reduceToNat, Int.cast_ofNat_Int, Int.reduceEq, Int.reduceNe, Int.reduceLT, Int.reduceLE]
          refine i_cond (fun c5 => ?_) (fun c5 => ?_)
          · rw [if_pos c5] at hI'
            try simp (disch := first | omega | (simp only [PL]; omega)) only [PS, P1, P2, P3, P4, P5, P6, P7, P8, PA, PB, PC, Nat.reduceAdd, Nat.reduceSub, Nat.reduceMul, Nat.reduceLeDiff, Nat.reduceEqDiff, Nat.succ_ne_self, reduceCtorEq, Int.reduceToNat, Int.cast_ofNat_Int, Int.reduceEq, Int.reduceNe, Int.reduceLT, Int.reduceLE, RM, id, Rk, hwa]
            refine i_cond (fun c6 => ?_) (fun c6 => ?_)
            · rw [if_pos (by omega)] at hI'
              try simp (disch := first | omega | (simp only [PL]; omega)) only [PS, P1, P2, P3, P4, P5, P6, P7, P8, PA, PB, PC, Nat.reduceAdd, Nat.reduceSub, Nat.reduceMul, Nat.reduceLeDiff, Nat.reduceEqDiff, Nat.succ_ne_self, reduceCtorEq, Int.reduceToNat, Int.cast_ofNat_Int, Int.reduceEq, Int.reduceNe, Int.reduceLT, Int.reduceLE, hws]
              exact k_loop (k + 1, sn + 1, at_ + 1, one, single) (by dsimp only; omega) (by try simp only [Pe, and_true, true_and, and_self]) ⟨rfl, by dsimp only; omega, by dsimp only; omega, by dsimp only; omega, by dsimp only; omega, by dsimp only; omega, by dsimp only; omega, hI'⟩
            · rw [if_neg (by omega), Int.add_zero] at hI'
              try simp (disch := first | omega | (simp only [PL]; omega)) only [PS, P1, P2, P3, P4, P5, P6, P7, P8, PA, PB, PC, Nat.reduceAdd, Nat.reduceSub, Nat.reduceMul, Nat.reduceLeDiff, Nat.reduceEqDiff, Nat.succ_ne_self, reduceCtorEq, Int.reduceToNat, Int.cast_ofNat_Int, Int.reduceEq, Int.reduceNe, Int.reduceLT, Int.reduceLE, hws]
              exact k_loop (k + 1, sn, at_ + 1, one, single) (by dsimp only; omega) (by try simp only [Pe, and_true, true_and, and_self]) ⟨rfl, by dsimp only; omega, by dsimp only; omega, by dsimp only; omega, by dsimp only; omega, by dsimp only; omega, by dsimp only; omega, hI'⟩
          · rw [if_neg c5, Int.add_zero] at hI'
            try simp (disch := first | omega | (simp only [PL]; omega)) only [PS, P1, P2, P3, P4, P5, P6, P7, P8, PA, PB, PC, Nat.reduceAdd, Nat.reduceSub, Nat.reduceMul, Nat.reduceLeDiff, Nat.reduceEqDiff, Nat.succ_ne_self, reduceCtorEq, Int.reduceToNat, Int.cast_ofNat_Int, Int.reduceEq, Int.reduceNe, Int.reduceLT, Int.reduceLE, RM, id, Rk, hwa]
            refine i_cond (fun c6 => ?_) (fun c6 => ?_)
            · rw [if_pos (by omega)] at hI'
              try simp (disch := first | omega | (simp only [PL]; omega)) only [PS, P1, P2, P3, P4, P5, P6, P7, P8, PA, PB, PC, Nat.reduceAdd, Nat.reduceSub, Nat.reduceMul, Nat.reduceLeDiff, Nat.reduceEqDiff, Nat.succ_ne_self, reduceCtorEq, Int.reduceToNat, Int.cast_ofNat_Int, Int.reduceEq, Int.reduceNe, Int.reduceLT, Int.reduceLE, hws]
              exact k_loop (k + 1, sn + 1, at_, one, single) (by dsimp only; omega) (by try simp only [Pe, and_true, true_and, and_self]) ⟨rfl, by dsimp only; omega, by dsimp only; omega, by dsimp only; omega, by dsimp only; omega, by dsimp only; omega, by dsimp only; omega, hI'⟩
            · rw [if_neg (by omega), Int.add_zero] at hI'
              try simp (disch := first | omega | (simp only [PL]; omega)) only [PS, P1, P2, P3, P4, P5, P6, P7, P8, PA, PB, PC, Nat.reduceAdd, Nat.reduceSub, Nat.reduceMul, Nat.reduceLeDiff, Nat.reduceEqDiff, Nat.succ_ne_self, reduceCtorEq, Int.reduceToNat, Int.cast_ofNat_Int, Int.reduceEq, Int.reduceNe, Int.reduceLT, Int.reduceLE, hws]
              exact k_loop (k + 1, sn, at_, one, single) (by dsimp only; omega) (by try simp only [Pe, and_true, true_and, and_self]) ⟨rfl, by dsimp only; omega, by dsimp only; omega, by dsimp only; omega, by dsimp only; omega, by dsimp only; omega, by dsimp only; omega, hI'⟩
      · try simp (disch := first | omega | (simp only [PL]; omega)) only [PS, P1, P2, P3, P4, P5, P6, P7, P8, PA, PB, PC, Nat.reduceAdd, Nat.reduceSub, Nat.reduceMul, Nat.reduceLeDiff, Nat.reduceEqDiff, Nat.succ_ne_self, reduceCtorEq, Int.reduceToNat, Int.cast_ofNat_Int, Int.reduceEq, Int.reduceNe, Int.reduceLT, Int.reduceLE]
        refine i_call H30 ⟨gt, bt, window, need, L, who, e, rfl, hT, hgt, fun h => absurd h (by omega), fun _ _ _ => ?_, fun _ _ h => absurd h ht⟩
        try simp (disch := first | omega | (simp only [PL]; omega)) only [PS, P1, P2, P3, P4, P5, P6, P7, P8, PA, PB, PC, Nat.reduceAdd, Nat.reduceSub, Nat.reduceMul, Nat.reduceLeDiff, Nat.reduceEqDiff, Nat.succ_ne_self, reduceCtorEq, Int.reduceToNat, Int.cast_ofNat_Int, Int.reduceEq, Int.reduceNe, Int.reduceLT, Int.reduceLE]
        refine i_call H30 ⟨go, bo, window, need, L.map (mine who), who, e, rfl, hO, hgo, fun h => absurd h (by rw [List.length_map]; omega), fun _ _ _ => ?_, fun _ _ h => absurd ((toldE_mine who L).1 h) ht⟩
        try simp (disch := first | omega | (simp only [PL]; omega)) only [PS, P1, P2, P3, P4, P5, P6, P7, P8, PA, PB, PC, Nat.reduceAdd, Nat.reduceSub, Nat.reduceMul, Nat.reduceLeDiff, Nat.reduceEqDiff, Nat.succ_ne_self, reduceCtorEq, Int.reduceToNat, Int.cast_ofNat_Int, Int.reduceEq, Int.reduceNe, Int.reduceLT, Int.reduceLE, errV_succ]
        exact k_loop (e + 1) (by omega) (by try simp only [Pe, and_true, true_and, and_self]) ⟨rfl, by omega⟩
end Go.Cw
/- From a row's data to what lies in memory. -/
namespace Go.Cw
open Go

inductive Ty where
  | int | str | bool | nil
  | cons (a b : Ty)
  | sl (e : Ty)
  deriving DecidableEq
def Ty.size : Ty → Nat
  | .int | .str | .bool | .sl _ => 1
  | .nil => 0
  | .cons a b => a.size + b.size

/-- all that lies in memory -/
def full (w : World) : Heap := fun b => w.heap[b]?
theorem full_sub (w : World) : (full w).sub w := fun _ _ h => h

def Mat (w : World) : Ty → List Value → Prop
  | .int, cs => ∃ n, cs = [.int .i64 n] ∧ (Lit.int .i64 n).wf = true
  | .str, cs => ∃ s, cs = [.string s] ∧ s.size ≤ maxLen
  | .bool, cs => ∃ b, cs = [.bool b]
  | .nil, cs => cs = []
  | .cons a b, cs => ∃ x y, cs = x ++ y ∧ Mat w a x ∧ Mat w b y
  | .sl e, cs => ∃ a n cap, cs = [.slice a n cap] ∧ n ≤ cap ∧ cap ≤ maxLen ∧ (n = 0 ∨ ∃ g, a = some g ∧ ∃ rows : List (List Value), rows.length = n ∧ rowAt (full w) g rows.flatten ∧ ∀ r ∈ rows, Mat w e r)

def chkFs (P : Program) (chk : TypeId → Ty → Bool) : List Field → Nat → Ty → Bool
  | [], _, .nil => true
  | f :: r, off, .cons a b => f.offset == off && P.cellsOf f.type == a.size && chk f.type a && chkFs P chk r (off + a.size) b
  | _, _, _ => false
def chkAr (P : Program) (chk : TypeId → Ty → Bool) (e : TypeId) : Nat → Ty → Bool
  | 0, .nil => true
  | n + 1, .cons a b => P.cellsOf e == a.size && chk e a && chkAr P chk e n b
  | _, _ => false
/-- is a type laid so? -/
def chk (P : Program) : Nat → TypeId → Ty → Bool
  | 0, _, _ => false
  | n + 1, t, ty =>
    match P.underlying t with
    | some (.int .i64) => ty == .int
    | some .string => ty == .str
    | some .bool => ty == .bool
    | some (.slice e) =>
      match ty with
      | .sl x => P.cellsOf e == x.size && decide (0 < x.size) && chk P n e x
      | _ => false
    | some (.struct fs) => P.cellsOf t == ty.size && chkFs P (chk P n) fs.toList 0 ty
    | some (.array k e) => P.cellsOf t == ty.size && chkAr P (chk P n) e k ty
    | _ => false

theorem mapM_some {α β : Type} {f : α → Option β} : ∀ {l : List α} {r : List β}, l.mapM f = some r → r.length = l.length ∧ ∀ i (h : i < l.length) (h' : i < r.length), f l[i] = some r[i] := by
  intro l
  induction l with
  | nil => intro r h; simp at h; subst h; simp
  | cons a l ih =>
    intro r h
    simp only [List.mapM_cons, Option.bind_eq_bind, Option.bind_eq_some_iff, Option.pure_def, Option.some.injEq] at h
    obtain ⟨y, h1, ys, h2, rfl⟩ := h
    obtain ⟨h3, h4⟩ := ih h2
    refine ⟨by simp [h3], fun i hi hi' => ?_⟩
    cases i with
    | zero => simpa using h1
    | succ i => simpa using h4 i (by simpa using hi) (by simpa using hi')

theorem cells_row {w : World} {a : Addr} {n : Nat} {cs : List Value} (h : w.cells? 0 a n = some cs) (hn : 0 < n) : cs.length = n ∧ a.spot = none ∧ ∀ i (hi : i < cs.length), w.cell? (a.add i) = some cs[i] := by
  simp only [World.cells?, Nat.zero_le, if_true] at h
  obtain ⟨h1, h2⟩ := mapM_some h
  have hl : cs.length = n := by simpa using h1
  refine ⟨hl, ?_, fun i hi => ?_⟩
  · have h3 := h2 0 (by simpa using hn) (by omega)
    simp only [List.getElem_range, addr_zero] at h3
    exact World.cell?_spot h3
  · have := h2 i (by simpa using by omega) hi
    simpa using this

theorem row_of_cells {w : World} {a : Addr} {cs : List Value} (hs : a.spot = none) (h : ∀ i (hi : i < cs.length), w.cell? (a.add i) = some cs[i]) (hne : cs ≠ []) : rowAt (full w) a cs := by
  have hb : ∀ i (hi : i < cs.length), ∃ c t fz, w.heap[a.block]? = some (.cells c t fz) ∧ c[a.off + i]? = some cs[i] := by
    intro i hi
    have h1 := h i hi
    rw [addr_add' a hs] at h1
    simp only [World.cell?] at h1
    split at h1
    · rename_i c t fz hh; exact ⟨c, t, fz, hh, by simpa using h1⟩
    · cases h1
  have hl : 0 < cs.length := List.length_pos_iff.2 hne
  obtain ⟨c, t, fz, h1, _⟩ := hb 0 hl
  refine ⟨hs, c, t, fz, h1, ?_, ?_⟩
  · obtain ⟨c', t', fz', h2, h3⟩ := hb (cs.length - 1) (by omega)
    rw [h1] at h2; cases h2
    have := (Array.getElem?_eq_some_iff.1 h3).1
    omega
  · intro i hi
    obtain ⟨c', t', fz', h2, h3⟩ := hb i hi
    rw [h1] at h2; cases h2
    rw [h3, List.getElem?_eq_getElem hi]

variable {H : Type} {enc : TypeId × Value → H} {P : Program} {w : World}

theorem mat_size : ∀ (ty : Ty) (cs : List Value), Mat w ty cs → cs.length = ty.size := by
  intro ty
  induction ty with
  | int => rintro _ ⟨n, rfl, _⟩; rfl
  | str => rintro _ ⟨n, rfl, _⟩; rfl
  | bool => rintro _ ⟨n, rfl⟩; rfl
  | nil => rintro _ rfl; rfl
  | cons a b iha ihb => rintro _ ⟨x, y, rfl, h1, h2⟩; simp [iha _ h1, ihb _ h2, Ty.size]
  | sl e _ => rintro _ ⟨a, n, cap, rfl, _⟩; rfl

theorem mat_fs {n : Nat} (ih : ∀ (t : TypeId) (ty : Ty) (fuel : Nat) (cs : List Value) (x : DataW H × List MemPlace), chk P n t ty = true → DataW.trod enc P w 0 (fun _ => true) true fuel t cs = some x → Mat w ty cs) (fuel : Nat) (cs : List Value) :
    ∀ (fs : List Field) (off : Nat) (ty : Ty), chkFs P (chk P n) fs off ty = true → cs.length = off + ty.size →
      (∀ f ∈ fs, ∃ x, DataW.trod enc P w 0 (fun _ => true) true fuel f.type ((cs.drop f.offset).take (P.cellsOf f.type)) = some x) → Mat w ty (cs.drop off) := by
  intro fs
  induction fs with
  | nil =>
    intro off ty h1 h2 _
    cases ty <;> simp [chkFs] at h1
    simp only [Ty.size] at h2
    show cs.drop off = []
    exact List.drop_eq_nil_of_le (by omega)
  | cons f r ihr =>
    intro off ty h1 h2 h3
    cases ty with
    | cons a b =>
      simp only [chkFs, Bool.and_eq_true, beq_iff_eq] at h1
      obtain ⟨⟨⟨e1, e2⟩, e3⟩, e4⟩ := h1
      obtain ⟨y, h5⟩ := h3 f (by simp)
      simp only [Ty.size] at h2
      refine ⟨(cs.drop off).take a.size, cs.drop (off + a.size), ?_, ?_, ?_⟩
      · rw [← List.drop_drop, List.take_append_drop]
      · rw [e1, e2] at h5; exact ih _ _ _ _ _ e3 h5
      · exact ihr _ _ e4 (by omega) fun g hg => h3 g (by simp [hg])
    | _ => simp [chkFs] at h1

theorem mat_ar {n : Nat} (ih : ∀ (t : TypeId) (ty : Ty) (fuel : Nat) (cs : List Value) (x : DataW H × List MemPlace), chk P n t ty = true → DataW.trod enc P w 0 (fun _ => true) true fuel t cs = some x → Mat w ty cs) (fuel : Nat) (cs : List Value) (e : TypeId) :
    ∀ (k i : Nat) (ty : Ty), chkAr P (chk P n) e k ty = true → cs.length = i * P.cellsOf e + ty.size →
      (∀ j, j < k → ∃ x, DataW.trod enc P w 0 (fun _ => true) true fuel e ((cs.drop ((i + j) * P.cellsOf e)).take (P.cellsOf e)) = some x) → Mat w ty (cs.drop (i * P.cellsOf e)) := by
  intro k
  induction k with
  | zero =>
    intro i ty h1 h2 _
    cases ty <;> simp [chkAr] at h1
    simp only [Ty.size] at h2
    show cs.drop _ = []
    exact List.drop_eq_nil_of_le (by omega)
  | succ k ihk =>
    intro i ty h1 h2 h3
    cases ty with
    | cons a b =>
      simp only [chkAr, Bool.and_eq_true, beq_iff_eq] at h1
      obtain ⟨⟨e2, e3⟩, e4⟩ := h1
      simp only [Ty.size] at h2
      obtain ⟨x, h5⟩ := h3 0 (by omega)
      have e6 : i * P.cellsOf e + a.size = (i + 1) * P.cellsOf e := by rw [Nat.add_mul, e2]; omega
      refine ⟨(cs.drop (i * P.cellsOf e)).take a.size, cs.drop ((i + 1) * P.cellsOf e), ?_, ?_, ?_⟩
      · rw [← e6, ← List.drop_drop, List.take_append_drop]
      · rw [Nat.add_zero] at h5; rw [← e2]; exact ih _ _ _ _ _ e3 h5
      · refine ihk (i + 1) b e4 (by omega) fun j hj => ?_
        have := h3 (j + 1) (by omega)
        rwa [show i + (j + 1) = i + 1 + j by omega] at this
    | _ => simp [chkAr] at h1

theorem mat_of_trod : ∀ (n : Nat) (t : TypeId) (ty : Ty) (fuel : Nat) (cs : List Value) (x : DataW H × List MemPlace), chk P n t ty = true → DataW.trod enc P w 0 (fun _ => true) true fuel t cs = some x → Mat w ty cs := by
  intro n
  induction n with
  | zero => intro t ty fuel cs x h; simp [chk] at h
  | succ n ih =>
    intro t ty fuel cs x hc h
    cases fuel with
    | zero => simp [DataW.trod] at h
    | succ fuel =>
      simp only [chk] at hc
      split at hc
      · rename_i hu
        simp only [beq_iff_eq] at hc; subst hc
        obtain ⟨m, rfl, _, h1⟩ := DataW.trod_int hu h
        exact ⟨m, rfl, h1⟩
      · rename_i hu
        simp only [beq_iff_eq] at hc; subst hc
        obtain ⟨m, rfl, _, h1⟩ := DataW.trod_string hu h
        exact ⟨m, rfl, h1⟩
      · rename_i hu
        simp only [beq_iff_eq] at hc; subst hc
        obtain ⟨m, rfl, _⟩ := DataW.trod_bool hu h
        exact ⟨m, rfl⟩
      · rename_i e hu
        split at hc
        · rename_i y
          simp only [Bool.and_eq_true, beq_iff_eq, decide_eq_true_eq] at hc
          obtain ⟨⟨e1, e2⟩, e3⟩ := hc
          rcases DataW.trod_slice hu h with ⟨rfl, _⟩ | ⟨a, len, cap, elems, rest, m, _, rfl, _, _, hl, hm, hlen, hel, _⟩
          · exact ⟨none, 0, 0, rfl, Nat.le_refl _, Nat.zero_le _, .inl rfl⟩
          · refine ⟨some a, len, cap, rfl, hl, hm, ?_⟩
            by_cases h0 : len = 0
            · exact .inl h0
            · have key : ∀ i, i < len → ∃ r, w.cells? 0 (a.add (i * P.cellsOf e)) (P.cellsOf e) = some r ∧ Mat w y r := by
                intro i hi
                have h5 := hel i hi
                rw [List.getElem?_eq_getElem (by omega), Option.bind_eq_some_iff] at h5
                obtain ⟨r, h6, h7⟩ := h5
                exact ⟨r, h6, ih _ _ _ _ _ e3 h7⟩
              have h9' : a.spot = none := by
                obtain ⟨r, h6, h7⟩ := key 0 (by omega)
                obtain ⟨_, h9, _⟩ := cells_row h6 (by omega)
                rw [Nat.zero_mul, addr_zero] at h9
                exact h9
              have hrows : ∀ k, k ≤ len → ∃ rows : List (List Value), rows.length = k ∧ (∀ r ∈ rows, Mat w y r) ∧ rows.flatten.length = k * y.size ∧ ∀ i (hi : i < rows.flatten.length), w.cell? (a.add i) = some rows.flatten[i] := by
                intro k
                induction k with
                | zero => intro _; exact ⟨[], rfl, by simp, by simp, by simp⟩
                | succ k ihk =>
                  intro hk
                  obtain ⟨rows, r1, r2, r3, r4⟩ := ihk (by omega)
                  obtain ⟨r, h6, h7⟩ := key k (by omega)
                  obtain ⟨h8, h9, h10⟩ := cells_row h6 (by omega)
                  refine ⟨rows ++ [r], by simp [r1], ?_, ?_, ?_⟩
                  · intro x hx; simp at hx; rcases hx with hx | rfl
                    · exact r2 x hx
                    · exact h7
                  · simp [List.flatten_append, r3, h8, e1, Nat.add_mul]
                  · intro i hi
                    have e5 : (rows ++ [r]).flatten = rows.flatten ++ r := by simp
                    simp only [e5] at hi ⊢
                    by_cases hlt : i < rows.flatten.length
                    · rw [List.getElem_append_left hlt]; exact r4 i hlt
                    · rw [List.getElem_append_right (by omega)]
                      simp only [List.length_append] at hi
                      have := h10 (i - rows.flatten.length) (by omega)
                      rw [← this, addr_add' a h9', addr_add' a h9', addr_add' _ rfl]
                      congr 2
                      simp only
                      rw [r3, e1]; omega
              obtain ⟨rows, r1, r2, r3, r4⟩ := hrows len (Nat.le_refl _)
              have hne : rows.flatten ≠ [] := by
                intro h; rw [h] at r3
                have : 0 < len * y.size := Nat.mul_pos (by omega) e2
                simp at r3; omega
              exact .inr ⟨a, rfl, rows, r1, row_of_cells h9' r4 hne, r2⟩
        · cases hc
      · rename_i fs hu
        simp only [Bool.and_eq_true, beq_iff_eq] at hc
        obtain ⟨xs, m, h0, _, h1, h2, h3⟩ := DataW.trod_struct hu h
        have := mat_fs (enc := enc) ih m cs fs.toList 0 ty hc.2 (by omega) (by
          intro f hf
          obtain ⟨i, hi, rfl⟩ := List.getElem_of_mem hf
          have hi' : i < fs.size := by simpa using hi
          have h4 := h3 i fs[i] (by simp [hi'])
          rw [List.getElem?_eq_getElem (by omega)] at h4
          exact ⟨_, by simpa using h4⟩)
        simpa using this
      · rename_i k e hu
        simp only [Bool.and_eq_true, beq_iff_eq] at hc
        obtain ⟨xs, m, h0, _, h1, h2, h3⟩ := DataW.trod_array hu h
        have := mat_ar (enc := enc) ih m cs e k 0 ty hc.2 (by omega) (by
          intro j hj
          have h4 := h3 j hj
          rw [List.getElem?_eq_getElem (by omega)] at h4
          exact ⟨_, by simpa using h4⟩)
        simpa using this
      · cases hc
end Go.Cw
namespace Go.Cw
open Go Go.RowKit

/-- a slice of things that are laid so -/
theorem mat_sl {w : World} {α : Type} {enc : α → List Value} {ty : Ty} {Good : α → Prop} (hc : ∀ cs, Mat w ty cs → ∃ x, Good x ∧ cs = enc x) {v : Value} (hm : Mat w (.sl ty) [v]) :
    ∃ l : List α, Sl enc (full w) v l ∧ (∀ x ∈ l, Good x) ∧ l.length ≤ maxLen := by
  obtain ⟨a, n, cap, e, h1, h2, h3⟩ := hm
  simp only [List.cons.injEq, and_true] at e
  subst e
  rcases h3 with rfl | ⟨g, rfl, rows, h4, h5, h6⟩
  · exact ⟨[], ⟨a, cap, rfl, by simp, .inl rfl⟩, by simp, by simp⟩
  · have key : ∀ rows : List (List Value), (∀ r ∈ rows, Mat w ty r) → ∃ l : List α, rows.flatten = l.flatMap enc ∧ l.length = rows.length ∧ ∀ x ∈ l, Good x := by
      intro rows
      induction rows with
      | nil => intro _; exact ⟨[], rfl, rfl, by simp⟩
      | cons r rows ih =>
        intro hr
        obtain ⟨l, a1, a2, a3⟩ := ih fun r hr' => hr r (by simp [hr'])
        obtain ⟨x, b1, b2⟩ := hc r (hr r (by simp))
        exact ⟨x :: l, by simp [a1, b2], by simp [a2], by simp; exact ⟨b1, a3⟩⟩
    obtain ⟨l, a1, a2, a3⟩ := key rows h6
    refine ⟨l, ⟨some g, cap, by rw [a2, h4], by rw [a2, h4]; exact h1, .inr ⟨g, rfl, by rw [← a1]; exact h5⟩⟩, a3, by rw [a2, h4]; omega⟩

theorem mat_int {w : World} {b : Ty} {cs : List Value} (h : Mat w (.cons .int b) cs) : ∃ n r, cs = .int .i64 n :: r ∧ Mat w b r := by
  obtain ⟨x, y, rfl, ⟨n, rfl, _⟩, h2⟩ := h
  exact ⟨n, y, rfl, h2⟩
theorem mat_str {w : World} {b : Ty} {cs : List Value} (h : Mat w (.cons .str b) cs) : ∃ (s : List UInt8) (r : List Value), cs = .string (str s) :: r ∧ s.length ≤ maxLen ∧ Mat w b r := by
  obtain ⟨x, y, rfl, ⟨n, rfl, h1⟩, h2⟩ := h
  exact ⟨n.data.toList, y, by rw [str_of]; rfl, by simpa using h1, h2⟩
theorem mat_one {w : World} {a b : Ty} {cs : List Value} (h : Mat w (.cons (.sl a) b) cs) : ∃ v r, cs = v :: r ∧ Mat w (.sl a) [v] ∧ Mat w b r := by
  obtain ⟨x, y, rfl, h1, h2⟩ := h
  have h1' := h1
  obtain ⟨a', n, cap, rfl, _⟩ := h1
  exact ⟨_, y, rfl, h1', h2⟩

def rdTy : Ty := .cons .int (.cons .int (.cons .int (.cons .str .nil)))
/-- a value of one cell -/
theorem mat_cell {w : World} {v : Value} {a : Option Addr} {n c : Nat} {ty : Ty} (he : v = .slice a n c) (h : Mat w ty v.cells.toList) : Mat w ty [v] := by subst he; simpa [Value.cells] using h
/-- what is proved of a law, as the row wants it -/
theorem law_calls {P : Program} {N : Num} {k : Nat} {f : FuncId} {args : List Value} {w : World} (hf : N.fid k = f) (h : GF P N k args (full w) fun v h' => v = .bool true ∧ Heap.le (full w) h') :
    Calls P f args.toArray w fun e w' => e = .returned (.bool true) ∧ Below w.heap.size w w' := by
  subst hf
  refine (h.2 w (full_sub w)).mono ?_
  rintro e w' ⟨v, h', rfl, ⟨rfl, hle⟩, hs⟩
  refine ⟨rfl, hs.os, hs.tape, hs.output, hs.size, fun b hb => ?_⟩
  have h1 : full w b = some w.heap[b] := by simp [full, hb]
  rw [hs.sub b _ (hle b _ h1)]
  simp [hb]
end Go.Cw
namespace Go.Cw
open Go
theorem mat_si {w : World} (cs : List Value) (h : Mat w rdTy cs) : ∃ x : Si, True ∧ cs = x.enc := by
  obtain ⟨a, _, rfl, h1⟩ := mat_int h
  obtain ⟨b, _, rfl, h2⟩ := mat_int h1
  obtain ⟨c, _, rfl, h3⟩ := mat_int h2
  obtain ⟨s, _, rfl, _, h4⟩ := mat_str h3
  cases h4
  exact ⟨⟨a, b, c, s⟩, trivial, rfl⟩
theorem mat_ss {w : World} {v : Value} (h : Mat w (.sl (.sl rdTy)) [v]) : ∃ L, SS (full w) v L := by
  obtain ⟨l, hl, hg, _⟩ := mat_sl (enc := encV) (Good := fun x => ∃ r : List Si, Sl Si.enc (full w) x r) (by
    intro cs h
    have h' := h
    obtain ⟨a, n, cap, rfl, _⟩ := h
    obtain ⟨r, hr, _⟩ := mat_sl mat_si h'
    exact ⟨_, ⟨r, hr⟩, rfl⟩) h
  have : ∀ l : List Value, (∀ x ∈ l, ∃ r : List Si, Sl Si.enc (full w) x r) → ∃ L : List (List Si), l.length = L.length ∧ ∀ i, i < L.length → Sl Si.enc (full w) (l.getD i undef) (L.getD i []) := by
    intro l
    induction l with
    | nil => intro _; exact ⟨[], rfl, by simp⟩
    | cons r l ih =>
      intro h
      obtain ⟨L, h1, h2⟩ := ih fun r hr => h r (by simp [hr])
      obtain ⟨f, hf⟩ := h r (by simp)
      refine ⟨f :: L, by simp [h1], fun i hi => ?_⟩
      cases i with
      | zero => simpa using hf
      | succ i => simpa using h2 i (by simpa using hi)
  obtain ⟨L, h1, h2⟩ := this l hg
  exact ⟨L, l, hl, h1, h2⟩
end Go.Cw
