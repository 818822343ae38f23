/- Part 2 of the proof of Names: a small language for the program's functions, its soundness, and what the functions do. No conditions beyond the theorems' own. -/
import Derived.Test.YthhepmakjimhlaaDoorCw1
import Derived.Below
import Derived.Carry
import Derived.Deep.Slices
import Derived.OpenShut
import Derived.ProofKit
import Derived.ShutString
import Derived.WalkKit
import GoSem.ClaimJoined
set_option linter.unusedSimpArgs false
set_option linter.unusedVariables false
/- Things that are written: what stays. -/
namespace Go.Cw
open Go

/-- the cells of a thing that may be written -/
def objAt (h : Heap) (a : Addr) (cs : List Value) : Prop :=
  a.spot = none ∧ ∃ c t, h a.block = some (.cells c t (0, 0)) ∧ a.off + cs.length ≤ c.size ∧ ∀ i, i < cs.length → c[a.off + i]? = cs[i]?
theorem objAt.le {h h' : Heap} {a : Addr} {cs : List Value} (ho : objAt h a cs) (hl : Heap.le h h') : objAt h' a cs := by
  obtain ⟨h1, c, t, h2, h3, h4⟩ := ho; exact ⟨h1, c, t, hl _ _ h2, h3, h4⟩
theorem objAt.row {h : Heap} {a : Addr} {cs : List Value} (ho : objAt h a cs) : rowAt h a cs := by
  obtain ⟨h1, c, t, h2, h3, h4⟩ := ho; exact ⟨h1, c, t, _, h2, h3, h4⟩
/-- what is read of it -/
theorem objAt.rules {h : Heap} {a : Addr} {cs : List Value} (ho : objAt h a cs) : (∀ j, j < cs.length → h.cell (a.add j) = cs[j]?) ∧ (0 < cs.length → h.cell a = cs[0]?) ∧ h.row a cs.length = some cs.toArray := by
  have hr := ho.row
  refine ⟨fun j hj => by rw [hr.cell hj, List.getElem?_eq_getElem hj], fun hj => ?_, ?_⟩
  · have := hr.cell hj; rw [addr_zero] at this; rw [this, List.getElem?_eq_getElem hj]
  · have := hr.row (i := 0) (n := cs.length) (by omega)
    rw [addr_zero] at this; rw [this]; simp

/-- all that was known stays, but for some cells of one block -/
def keeps (a : Addr) (n : Nat) (h h' : Heap) : Prop :=
  (∀ b o, b ≠ a.block → h b = some o → h' b = some o) ∧
  (∀ c t fz, h a.block = some (.cells c t fz) → ∃ c', h' a.block = some (.cells c' t fz) ∧ c'.size = c.size ∧ ∀ i, i < a.off ∨ a.off + n ≤ i → c'[i]? = c[i]?)
theorem keeps.of_le {a : Addr} {n : Nat} {h h' : Heap} (hl : Heap.le h h') : keeps a n h h' := ⟨fun b o _ hb => hl b o hb, fun c t fz hc => ⟨c, hl _ _ hc, rfl, fun _ _ => rfl⟩⟩
theorem keeps.refl (a : Addr) (n : Nat) (h : Heap) : keeps a n h h := .of_le (Heap.le.refl h)
theorem keeps.trans {a : Addr} {n : Nat} {h h' h'' : Heap} (k1 : keeps a n h h') (k2 : keeps a n h' h'') : keeps a n h h'' := by
  refine ⟨fun b o hb h1 => k2.1 b o hb (k1.1 b o hb h1), fun c t fz hc => ?_⟩
  obtain ⟨c', h1, h2, h3⟩ := k1.2 c t fz hc
  obtain ⟨c'', h4, h5, h6⟩ := k2.2 c' t fz h1
  exact ⟨c'', h4, h5.trans h2, fun i hi => (h6 i hi).trans (h3 i hi)⟩
theorem keeps.le {a : Addr} {n : Nat} {g h h' : Heap} (k : keeps a n h h') (hg : Heap.le g h) (hn : g a.block = none) : Heap.le g h' := by
  intro b o hb
  exact k.1 b o (by intro e; subst e; rw [hn] at hb; cases hb) (hg b o hb)

/-- what is new -/
def fr (h h' : Heap) : Heap := fun b => match h b with
  | none => h' b
  | some _ => none
theorem fr_le (h h' : Heap) : Heap.le (fr h h') h' := by
  intro b o hb; simp only [fr] at hb; split at hb
  · exact hb
  · cases hb
theorem fr_none {h h' : Heap} {b : Nat} {o : Obj} (hb : h b = some o) : fr h h' b = none := by simp [fr, hb]
theorem fr_mono {h h' h'' : Heap} (hl : Heap.le h' h'') : Heap.le (fr h h') (fr h h'') := by
  intro b o hb; simp only [fr] at hb ⊢; split at hb
  · exact hl b o hb
  · cases hb
/-- of more that was there less is new -/
theorem fr_anti {g h h' : Heap} (hl : ∀ b, h b = none → g b = none) : Heap.le (fr h h') (fr g h') := by
  intro b o hb; simp only [fr] at hb ⊢
  split at hb
  · rename_i h1; rw [hl b h1]; exact hb
  · cases hb
theorem le_none {g h : Heap} (hl : Heap.le g h) : ∀ b, h b = none → g b = none := by
  intro b hb
  cases hg : g b with
  | none => rfl
  | some o => rw [hl b o hg] at hb; cases hb
theorem keeps_none {a : Addr} {n : Nat} {h h' : Heap} (k : keeps a n h h') {o : Obj} (ha : h' a.block = some o) : True := trivial

def join (g g' : Heap) : Heap := fun b => (g b).orElse fun _ => g' b
theorem join_l (g g' : Heap) : Heap.le g (join g g') := by intro b o hb; simp [join, hb]
theorem join_r {g g' h : Heap} (h1 : Heap.le g h) (h2 : Heap.le g' h) : Heap.le g' (join g g') := by
  intro b o hb
  simp only [join]
  cases hg : g b with
  | none => simpa using hb
  | some o' => have a1 := h1 b o' hg; have a2 := h2 b o hb; rw [a1] at a2; simpa using a2
theorem join_le {g g' h : Heap} (h1 : Heap.le g h) (h2 : Heap.le g' h) : Heap.le (join g g') h := by
  intro b o hb
  simp only [join] at hb
  cases hg : g b with
  | none => rw [hg] at hb; exact h2 b o (by simpa using hb)
  | some o' => rw [hg] at hb; simp at hb; subst hb; exact h1 b _ hg
theorem join_none {g g' : Heap} {b : Nat} (h1 : g b = none) (h2 : g' b = none) : join g g' b = none := by simp [join, h1, h2]

theorem OwnS.grow {α : Type} {enc : α → List Value} {sz : Nat} {g h h1 : Heap} {v : Value} {l : List α} (ho : OwnS enc sz g h v l) (hl : Heap.le h h1) : OwnS enc sz (join g (fr h h1)) h1 v l := by
  obtain ⟨a0, a, cap, h2, h3, h4, h5⟩ := ho
  refine ⟨join_le (a0.trans hl) (fr_le _ _), a, cap, h2, h3, h4, h5.imp id ?_⟩
  rintro ⟨b, c, t, a1, a2, a3, a4⟩
  exact ⟨b, c, t, a1, join_none a2 (fr_none a3), hl _ _ a3, a4⟩

theorem Heap.set_ne {h : Heap} {b b' : Nat} {o : Obj} (e : b' ≠ b) : (h.set b o) b' = h b' := by simp [Heap.set, e]
theorem Heap.set_eq {h : Heap} {b : Nat} {o : Obj} : (h.set b o) b = some o := by simp [Heap.set]

theorem OwnS.set {α : Type} {enc : α → List Value} {sz : Nat} {g h : Heap} {v : Value} {l : List α} (ho : OwnS enc sz g h v l) {b : Nat} {o o' : Obj} (hb : g b = some o) : OwnS enc sz (g.set b o') (h.set b o') v l := by
  obtain ⟨a0, a, cap, h2, h3, h4, h5⟩ := ho
  refine ⟨?_, a, cap, h2, h3, h4, h5.imp id ?_⟩
  · intro x y hx
    by_cases e : x = b
    · subst e; rw [Heap.set_eq] at hx ⊢; exact hx
    · rw [Heap.set_ne e] at hx ⊢; exact a0 x y hx
  · rintro ⟨b', c, t, a1, a2, a3, a4⟩
    have e : b' ≠ b := by intro e; subst e; rw [hb] at a2; cases a2
    exact ⟨b', c, t, a1, by rw [Heap.set_ne e]; exact a2, by rw [Heap.set_ne e]; exact a3, a4⟩

/-- cells are written -/
theorem i_st {N : Num} {Γ : Ctx} {h : Heap} {a : Addr} {cs : List Value} (ho : objAt h a cs) (j n : Nat) {x : Value} (hx : x.cells.size = n) (h1 : x.cells.toList.all one = true) (hn : 0 < n) (hj : j + n ≤ cs.length) {K : Value → Heap → Prop}
    (hK : ∀ o, (∀ g : Heap, g a.block = h a.block → objAt (g.set a.block o) a (cs.take j ++ x.cells.toList ++ cs.drop (j + n))) → (∀ g : Heap, g a.block = h a.block → keeps a cs.length g (g.set a.block o)) → K undef (h.set a.block o)) :
    efW N Γ (.st n) [.pointer (some (a.add j)), x] h K := by
  obtain ⟨hs, c, t, h2, h3, h4⟩ := ho
  have hlen : x.cells.toList.length = n := by simp [hx]
  have hpg := fun i => putL_get c x.cells.toList (a.off + j) i (by omega)
  refine ⟨hx, h.set a.block (.cells (putL c (a.off + j) x.cells.toList) t (0, 0)), ?_, ?_⟩
  · rw [addr_add' a hs]
    cases hl : x.cells.toList with
    | nil => rw [hl] at hlen; simp at hlen; omega
    | cons y ys =>
      have h5 : a.off + j + (y :: ys).length ≤ c.size := by rw [← hl]; omega
      have h6 : (y :: ys).all one = true := by rw [← hl]; exact h1
      simp only [putRow, Option.isSome_none, Bool.false_eq_true, if_false, h2]
      rw [if_pos ⟨h5, h6⟩]
  · refine hK _ (fun g hg => ⟨hs, _, t, Heap.set_eq, ?_, ?_⟩) (fun g hg => ⟨?_, ?_⟩)
    · rw [(hpg 0).1]; simp only [List.length_append, List.length_take, List.length_drop, hlen]; omega
    · intro i hi
      simp only [List.length_append, List.length_take, List.length_drop, hlen] at hi
      rw [(hpg _).2]
      by_cases e : a.off + j ≤ a.off + i ∧ a.off + i < a.off + j + x.cells.toList.length
      · rw [if_pos e, List.append_assoc, List.getElem?_append_right (by simp; omega), List.getElem?_append_left (by simp only [List.length_take]; omega)]
        congr 1; simp only [List.length_take]; omega
      · rw [if_neg e, h4 i (by omega)]
        by_cases e2 : i < j
        · rw [List.append_assoc, List.getElem?_append_left (by simp only [List.length_take]; omega), List.getElem?_take_of_lt e2]
        · rw [List.getElem?_append_right (by simp only [List.length_append, List.length_take, hlen]; omega)]
          rw [List.getElem?_drop]
          congr 1; simp only [List.length_append, List.length_take, hlen]; omega
    · intro b o hb h5; rw [Heap.set_ne hb]; exact h5
    · intro c' t' fz h5
      rw [hg, h2] at h5
      cases h5
      refine ⟨_, Heap.set_eq, (hpg 0).1, fun i hi => ?_⟩
      rw [(hpg i).2, if_neg (by omega)]

/-- a new thing -/
theorem i_newO {N : Num} {Γ : Ctx} {h : Heap} {t : Nat} {x : Value} {K : Value → Heap → Prop}
    (hx : ∀ b h', Heap.le h h' → h b = none → objAt (fr h h') ⟨b, 0, none⟩ x.cells.toList → K (.pointer (some ⟨b, 0, none⟩)) h') : efW N Γ (.new t) [x] h K := by
  intro b hb
  refine hx b _ ((Heap.le.refl h).new hb _) hb ⟨rfl, x.cells, N.tid t, ?_, by simp, fun i hi => by simp⟩
  simp [fr, hb, Heap.set]
end Go.Cw
/- Maps, and what a step leaves as it was. -/
namespace Go.Cw
open Go

def disj (f g : Heap) : Prop := ∀ b, f b ≠ none → g b = none
theorem disj.symm {f g : Heap} (h : disj f g) : disj g f := by
  intro b hb
  cases hf : f b with
  | none => rfl
  | some o => exact absurd (h b (by rw [hf]; simp)) hb

/-- from what is owned in a heap to what is owned behind a step: all else stays -/
structure Step (g h g' h' : Heap) : Prop where
  le : Heap.le g' h'
  frame : ∀ b o, h b = some o → g b = none → h' b = some o
  fresh : ∀ b, h b ≠ none → g b = none → g' b = none
theorem Step.refl {g h : Heap} (hl : Heap.le g h) : Step g h g h := ⟨hl, fun _ _ h _ => h, fun _ _ h => h⟩
theorem Step.trans {g h g' h' g'' h'' : Heap} (a : Step g h g' h') (b : Step g' h' g'' h'') : Step g h g'' h'' := by
  refine ⟨b.le, fun x o h1 h2 => ?_, fun x h1 h2 => ?_⟩
  · exact b.frame x o (a.frame x o h1 h2) (a.fresh x (by rw [h1]; simp) h2)
  · refine b.fresh x ?_ (a.fresh x h1 h2)
    cases hx : h x with
    | none => exact absurd hx h1
    | some o => rw [a.frame x o hx h2]; simp
/-- what is not owned stays, and stays apart -/
theorem Step.keep {g h g' h' f : Heap} (a : Step g h g' h') (hf : Heap.le f h) (hd : disj f g) : Heap.le f h' ∧ disj f g' := by
  refine ⟨fun b o hb => a.frame b o (hf b o hb) (hd b (by rw [hb]; simp)), fun b hb => ?_⟩
  cases hfb : f b with
  | none => exact absurd hfb hb
  | some o => exact a.fresh b (by rw [hf b o hfb]; simp) (hd b hb)
theorem Step.alloc {g h h' : Heap} (hg : Heap.le g h) (hl : Heap.le h h') : Step g h (join g (fr h h')) h' := by
  refine ⟨join_le (hg.trans hl) (fr_le _ _), fun b o h1 _ => hl b o h1, fun b h1 h2 => ?_⟩
  cases hb : h b with
  | none => exact absurd hb h1
  | some o => exact join_none h2 (fr_none hb)
theorem Step.more {g h h' : Heap} (hg : Heap.le g h) (hl : Heap.le h h') : Step g h g h' := ⟨hg.trans hl, fun b o h1 _ => hl b o h1, fun _ _ h => h⟩
theorem Step.set {g h : Heap} (hg : Heap.le g h) {b : Nat} (hb : g b ≠ none) (o : Obj) : Step g h (g.set b o) (h.set b o) := by
  refine ⟨?_, fun x y h1 h2 => ?_, fun x h1 h2 => ?_⟩
  · intro x y hx
    by_cases e : x = b
    · subst e; rw [Heap.set_eq] at hx ⊢; exact hx
    · rw [Heap.set_ne e] at hx ⊢; exact hg x y hx
  · have e : x ≠ b := by intro e; subst e; exact hb h2
    rw [Heap.set_ne e]; exact h1
  · have e : x ≠ b := by intro e; subst e; exact hb h2
    rw [Heap.set_ne e]; exact h2
/-- a step of a part -/
theorem Step.part {g h g' h' f : Heap} (a : Step g h g' h') (hf : Heap.le f h) (hd : disj f g) : Step (join f g) h (join f g') h' := by
  obtain ⟨k1, k2⟩ := a.keep hf hd
  refine ⟨join_le k1 a.le, fun b o h1 h2 => ?_, fun b h1 h2 => ?_⟩
  · have hg : g b = none := by
      simp only [join] at h2
      cases hfb : f b with
      | none => rw [hfb] at h2; simpa using h2
      | some x => rw [hfb] at h2; simp at h2
    exact a.frame b o h1 hg
  · have hfb : f b = none := by
      cases hfb : f b with
      | none => rfl
      | some x => simp only [join, hfb] at h2; simp at h2
    have hg : g b = none := by simp only [join, hfb] at h2; simpa using h2
    exact join_none hfb (a.fresh b h1 hg)

/-! ### maps -/
section
variable {κ ν : Type} [DecidableEq κ]

class KeyOk (kb : Bk) (ek : κ → Value) : Prop where
  eq : ∀ a b, cellEq kb (ek a) (ek b) = some (decide (a = b))

def encKS (s : List UInt8) : Value := .string (str s)
def encKI (n : Int) : Value := .int .i64 n
instance : KeyOk .str encKS where
  eq := by intro a b; simp [cellEq, encKS, str_beq]
instance : KeyOk .int encKI where
  eq := by
    intro a b
    simp only [cellEq, encKI, if_true]
    rfl

def lookI : List (κ × ν) → κ → Nat → Option (Nat × ν)
  | [], _, _ => none
  | p :: r, k, i => if k = p.1 then some (i, p.2) else lookI r k (i + 1)
def look (kv : List (κ × ν)) (k : κ) : Option ν := (lookI kv k 0).map (·.2)
def upd : List (κ × ν) → κ → ν → List (κ × ν)
  | [], k, v => [(k, v)]
  | p :: r, k, v => if k = p.1 then (k, v) :: r else p :: upd r k v

theorem lookI_shift (kv : List (κ × ν)) (k : κ) : ∀ (i j : Nat), lookI kv k (i + j) = (lookI kv k i).map fun p => (p.1 + j, p.2) := by
  induction kv with
  | nil => intro i j; rfl
  | cons p r ih =>
    intro i j
    simp only [lookI]
    split
    · rfl
    · rw [show i + j + 1 = (i + 1) + j by omega, ih]
theorem look_nil (k : κ) : look ([] : List (κ × ν)) k = none := rfl
theorem look_cons (p : κ × ν) (r : List (κ × ν)) (k : κ) : look (p :: r) k = if k = p.1 then some p.2 else look r k := by
  unfold look
  simp only [lookI]
  split
  · rfl
  · have := lookI_shift r k 0 1
    rw [this]; cases lookI r k 0 <;> rfl
theorem look_upd (kv : List (κ × ν)) (k k' : κ) (v : ν) : look (upd kv k v) k' = if k' = k then some v else look kv k' := by
  induction kv with
  | nil => simp only [upd, look_cons, look_nil]
  | cons p r ih =>
    simp only [upd]
    split
    · rename_i e; subst e
      simp only [look_cons]
      split
      · rfl
      · rfl
    · rename_i e
      simp only [look_cons, ih]
      by_cases e1 : k' = p.1
      · have e2 : k' ≠ k := by intro e3; exact e (e3.symm.trans e1)
        rw [if_pos e1, if_neg e2, if_pos e1]
      · rw [if_neg e1, if_neg e1]
theorem look_mem {kv : List (κ × ν)} {k : κ} {v : ν} (h : look kv k = some v) : (k, v) ∈ kv := by
  induction kv with
  | nil => simp [look_nil] at h
  | cons p r ih =>
    rw [look_cons] at h
    split at h
    · rename_i e; cases h; subst e; simp
    · exact List.mem_cons_of_mem _ (ih h)
theorem look_none {kv : List (κ × ν)} {k : κ} (h : look kv k = none) : k ∉ kv.map (·.1) := by
  induction kv with
  | nil => simp
  | cons p r ih =>
    rw [look_cons] at h
    split at h
    · cases h
    · rename_i e
      have := ih h
      simp only [List.map_cons, List.mem_cons, not_or]
      exact ⟨e, this⟩
theorem look_of_mem {kv : List (κ × ν)} (hn : (kv.map (·.1)).Nodup) {k : κ} {v : ν} (h : (k, v) ∈ kv) : look kv k = some v := by
  induction kv with
  | nil => simp at h
  | cons p r ih =>
    rw [look_cons]
    simp only [List.map_cons, List.nodup_cons] at hn
    simp only [List.mem_cons] at h
    rcases h with rfl | h
    · simp
    · have : k ≠ p.1 := by rintro rfl; exact hn.1 (List.mem_map.2 ⟨_, h, rfl⟩)
      rw [if_neg this]; exact ih hn.2 h
theorem upd_keys (kv : List (κ × ν)) (k : κ) (v : ν) : (upd kv k v).map (·.1) = if k ∈ kv.map (·.1) then kv.map (·.1) else kv.map (·.1) ++ [k] := by
  induction kv with
  | nil => simp [upd]
  | cons p r ih =>
    simp only [upd]
    split
    · rename_i e; subst e; simp
    · rename_i e
      simp only [List.map_cons, ih, List.mem_cons]
      by_cases h : k ∈ r.map (·.1)
      · simp [h]
      · simp [h, e]
theorem upd_nodup {kv : List (κ × ν)} (hn : (kv.map (·.1)).Nodup) (k : κ) (v : ν) : ((upd kv k v).map (·.1)).Nodup := by
  rw [upd_keys]
  split
  · exact hn
  · rename_i h
    rw [List.nodup_append]
    refine ⟨hn, by simp, ?_⟩
    intro a ha b hb e
    simp at hb; subst hb; subst e; exact h ha

def mkE (ek : κ → Value) (ev : ν → Value) (p : κ × ν) (b : Nat) : MapEntry := { key := ek p.1, val := ev p.2, born := b }
/-- a map in memory -/
def MapB (ek : κ → Value) (ev : ν → Value) (g : Heap) (m : Nat) (kv : List (κ × ν)) (bs : List Nat) (ck : Nat) : Prop :=
  ∃ es : Array MapEntry, g m = some (.map es ck) ∧ es.toList = List.zipWith (mkE ek ev) kv bs ∧ bs.length = kv.length ∧ bs.Nodup ∧ (∀ b ∈ bs, b < ck) ∧ (kv.map (·.1)).Nodup
omit [DecidableEq κ] in
theorem MapB.le {ek : κ → Value} {ev : ν → Value} {g h : Heap} {m : Nat} {kv : List (κ × ν)} {bs : List Nat} {ck : Nat} (hm : MapB ek ev g m kv bs ck) (hl : Heap.le g h) : MapB ek ev h m kv bs ck := by
  obtain ⟨es, h1, h2⟩ := hm; exact ⟨es, hl _ _ h1, h2⟩

theorem findE_eq {kb : Bk} {ek : κ → Value} [hk : KeyOk kb ek] {ev : ν → Value} (k : κ) : ∀ (kv : List (κ × ν)) (bs : List Nat) (i : Nat), bs.length = kv.length →
    findE kb (ek k) (List.zipWith (mkE ek ev) kv bs) i = some ((lookI kv k i).map fun p => (p.1, ev p.2)) := by
  intro kv
  induction kv with
  | nil => intro bs i h; cases bs <;> rfl
  | cons p r ih =>
    intro bs i h
    cases bs with
    | nil => simp at h
    | cons b bs =>
      simp only [List.zipWith_cons_cons, findE, mkE, hk.eq, lookI]
      by_cases e : k = p.1
      · simp [e]
      · simp only [e, decide_false, if_false]
        exact ih bs (i + 1) (by simpa using h)

theorem MapB.rules (kb : Bk) {ek : κ → Value} [KeyOk kb ek] {ev : ν → Value} {h : Heap} {m : Nat} {kv : List (κ × ν)} {bs : List Nat} {ck : Nat} (hm : MapB ek ev h m kv bs ck) :
    (∀ z k, o2V h (.lkp kb z) (.v (.map (some m))) (.v (ek k)) = some (.v (match look kv k with | some x => ev x | none => z))) ∧
    (∀ z k, o2V h (.lkpo kb z) (.v (.map (some m))) (.v (ek k)) = some (.v (match look kv k with | some x => .tuple #[ev x, .bool true] | none => .tuple #[z, .bool false]))) ∧
    (∀ N env, o1V N env h .mlen (.v (.map (some m))) = some (.v (.int .i64 kv.length))) := by
  obtain ⟨es, h1, h2, h3, h4, h5, h6⟩ := hm
  have he : entriesOf h (.map (some m)) = some (List.zipWith (mkE ek ev) kv bs) := by simp [entriesOf, h1, h2]
  refine ⟨fun z k => ?_, fun z k => ?_, fun N env => ?_⟩
  · simp only [o2V, he, Option.bind_some, findE_eq k kv bs 0 h3, Option.map_some, look]
    cases lookI kv k 0 <;> rfl
  · simp only [o2V, he, Option.bind_some, findE_eq k kv bs 0 h3, Option.map_some, look]
    cases lookI kv k 0 <;> rfl
  · simp only [o1V, he, Option.map_some, List.length_zipWith, h3, Nat.min_self]

theorem lookI_spec : ∀ (kv : List (κ × ν)) (k : κ) (i j : Nat) (v : ν), lookI kv k i = some (j, v) → i ≤ j ∧ kv[j - i]? = some (k, v) ∧ ∀ w, upd kv k w = kv.set (j - i) (k, w) := by
  intro kv
  induction kv with
  | nil => intro k i j v h; simp [lookI] at h
  | cons p r ih =>
    intro k i j v h
    simp only [lookI] at h
    split at h
    · rename_i e; cases h; subst e
      refine ⟨Nat.le_refl _, by simp, fun w => by simp [upd]⟩
    · rename_i e
      obtain ⟨h1, h2, h3⟩ := ih _ _ _ _ h
      have e2 : j - i = (j - (i + 1)) + 1 := by omega
      refine ⟨by omega, by rw [e2]; simpa using h2, fun w => ?_⟩
      rw [e2]; simp [upd, e, h3 w]
theorem lookI_none {kv : List (κ × ν)} {k : κ} {i : Nat} (h : lookI kv k i = none) : k ∉ kv.map (·.1) ∧ ∀ w, upd kv k w = kv ++ [(k, w)] := by
  induction kv generalizing i with
  | nil => simp [upd]
  | cons p r ih =>
    simp only [lookI] at h
    split at h
    · cases h
    · rename_i e
      obtain ⟨h1, h2⟩ := ih h
      refine ⟨?_, fun w => by simp [upd, e, h2 w]⟩
      simp only [List.map_cons, List.mem_cons, not_or]; exact ⟨e, h1⟩

omit [DecidableEq κ] in
theorem zip_modify {ek : κ → Value} {ev : ν → Value} : ∀ (kv : List (κ × ν)) (bs : List Nat) (j : Nat) (k : κ) (v w : ν), bs.length = kv.length → kv[j]? = some (k, v) →
    (List.zipWith (mkE ek ev) kv bs).modify j (fun e => { e with key := ek k, val := ev w }) = List.zipWith (mkE ek ev) (kv.set j (k, w)) bs := by
  intro kv
  induction kv with
  | nil => intro bs j k v w h hj; simp at hj
  | cons p r ih =>
    intro bs j k v w h hj
    cases bs with
    | nil => simp at h
    | cons b bs =>
      cases j with
      | zero => simp [mkE]
      | succ j => simpa using ih bs j k v w (by simpa using h) (by simpa using hj)

/-- a map is written -/
theorem i_mupd {kb : Bk} {ek : κ → Value} [KeyOk kb ek] {ev : ν → Value} {N : Num} {Γ : Ctx} {g h : Heap} {m : Nat} {kv : List (κ × ν)} {bs : List Nat} {ck : Nat} (hm : MapB ek ev g m kv bs ck) (hg : Heap.le g h) (k : κ) (v : ν) {K : Value → Heap → Prop}
    (hK : ∀ o bs' ck', MapB ek ev (g.set m o) m (upd kv k v) bs' ck' → Step g h (g.set m o) (h.set m o) → (k ∈ kv.map (·.1) → bs' = bs ∧ ck' = ck) → K undef (h.set m o)) : efW N Γ (.mupd kb) [.map (some m), ek k, ev v] h K := by
  obtain ⟨es, h1, h2, h3, h4, h5, h6⟩ := hm
  have hgm : g m ≠ none := by rw [h1]; simp
  refine ⟨es, ck, hg _ _ h1, _, by rw [h2]; exact findE_eq k kv bs 0 h3, ?_⟩
  cases hl : lookI kv k 0 with
  | none =>
    obtain ⟨n1, n2⟩ := lookI_none hl
    simp only [Option.map_none]
    refine hK _ (bs ++ [ck]) (ck + 1) ⟨_, Heap.set_eq, ?_, ?_, ?_, ?_, ?_⟩ (Step.set hg hgm _) (fun hk => absurd hk n1)
    · rw [n2 v]
      simp only [Array.toList_push, h2]
      rw [List.zipWith_append (by simpa using h3.symm)]; simp [mkE]
    · rw [n2 v]; simp [h3]
    · rw [List.nodup_append]
      refine ⟨h4, by simp, ?_⟩
      intro a ha b hb e; simp at hb; subst hb; subst e; exact Nat.lt_irrefl _ (h5 a ha)
    · intro b hb; simp at hb; rcases hb with hb | rfl
      · have := h5 b hb; omega
      · omega
    · exact upd_nodup h6 k v
  | some p =>
    obtain ⟨j, x⟩ := p
    obtain ⟨_, a2, a3⟩ := lookI_spec kv k 0 j x hl
    simp only [Option.map_some]
    rw [Nat.sub_zero] at a2
    have a3' := a3 v
    rw [Nat.sub_zero] at a3'
    refine hK _ bs ck ⟨_, Heap.set_eq, ?_, ?_, h4, h5, ?_⟩ (Step.set hg hgm _) (fun _ => ⟨rfl, rfl⟩)
    · rw [a3', ← zip_modify kv bs j k x v h3 a2, ← h2]; simp
    · rw [a3']; simpa using h3
    · exact upd_nodup h6 k v
omit [DecidableEq κ] in
/-- a new map -/
theorem i_mnew {ek : κ → Value} {ev : ν → Value} {N : Num} {Γ : Ctx} {h : Heap} {K : Value → Heap → Prop}
    (hK : ∀ m h', h m = none → Heap.le h h' → MapB ek ev (fr h h') m ([] : List (κ × ν)) [] 0 → K (.map (some m)) h') : efW N Γ .mnew [] h K := by
  intro m hm
  refine hK m _ hm ((Heap.le.refl h).new hm _) ⟨#[], ?_, by simp, by simp, by simp, by simp, by simp⟩
  simp [fr, hm, Heap.set]

/-! ### going over a map -/
/-- where a walk over a map stands: the entries at these places are behind it -/
def IterB (h : Heap) (r m : Nat) (ck : Nat) (dn : List Nat) : Prop := h r = some (.mapIter (some m) ck dn.toArray ck)

theorem i_rng {N : Num} {Γ : Ctx} {h : Heap} {m : Nat} {es : Array MapEntry} {ck : Nat} (hm : h m = some (.map es ck)) {K : Value → Heap → Prop}
    (hK : ∀ r h', h r = none → Heap.le h h' → IterB (fr h h') r m ck [] → K (.pointer (some ⟨r, 0, none⟩)) h') : efW N Γ .rng [.map (some m)] h K := by
  refine ⟨es, ck, hm, fun r hr => hK r _ hr ((Heap.le.refl h).new hr _) ?_⟩
  simp [IterB, fr, hr, Heap.set]
theorem i_rng0 {N : Num} {Γ : Ctx} {h : Heap} {K : Value → Heap → Prop}
    (hK : ∀ r h', h r = none → Heap.le h h' → fr h h' r = some (.mapIter none 0 #[] 0) → K (.pointer (some ⟨r, 0, none⟩)) h') : efW N Γ .rng [.map none] h K := by
  intro r hr
  exact hK r _ hr ((Heap.le.refl h).new hr _) (by simp [fr, hr, Heap.set])
theorem i_nxt0 {N : Num} {Γ : Ctx} {h : Heap} {r a b : Nat} {s : Array Nat} (hr : h r = some (.mapIter none a s b)) {K : Value → Heap → Prop} (hK : K (.tuple #[.bool false]) h) : efW N Γ .nxt [.pointer (some ⟨r, 0, none⟩)] h K :=
  .inl ⟨_, _, _, hr, hK⟩

omit [DecidableEq κ] in
/-- the next entry of a map to which none was added: there is one that is not behind us, or all are -/
theorem i_nxt {ek : κ → Value} {ev : ν → Value} {N : Num} {Γ : Ctx} {h : Heap} {r m : Nat} {kv : List (κ × ν)} {bs : List Nat} {ck : Nat} (hm : MapB ek ev h m kv bs ck) {dn : List Nat} (hr : IterB h r m ck dn) (hsub : ∀ b ∈ dn, b ∈ bs) {K : Value → Heap → Prop}
    (hend : (∀ b ∈ bs, b ∈ dn) → K (.tuple #[.bool false]) h)
    (hnext : ∀ (i b : Nat) k v, kv[i]? = some (k, v) → bs[i]? = some b → b ∉ dn → K (.tuple #[.bool true, ek k, ev v]) (h.set r (.mapIter (some m) ck (dn ++ [b]).toArray ck))) : efW N Γ .nxt [.pointer (some ⟨r, 0, none⟩)] h K := by
  obtain ⟨es, h1, h2, h3, h4, h5, h6⟩ := hm
  have hmem : ∀ e ∈ es.toList, ∃ (i : Nat) (k : κ) (v : ν) (b : Nat), kv[i]? = some (k, v) ∧ bs[i]? = some b ∧ e = mkE ek ev (k, v) b := by
    intro e he
    rw [h2] at he
    obtain ⟨i, hi, rfl⟩ := List.getElem_of_mem he
    simp only [List.length_zipWith] at hi
    have hi1 : i < kv.length := by omega
    have hi2 : i < bs.length := by omega
    exact ⟨i, kv[i].1, kv[i].2, bs[i], by simp [hi1], by simp [hi2], by simp⟩
  have hborn : ∀ e ∈ es.toList, e.born ∈ bs ∧ e.born < ck := by
    intro e he
    obtain ⟨i, k, v, b, a1, a2, rfl⟩ := hmem e he
    have := List.mem_of_getElem? a2
    exact ⟨this, h5 _ this⟩
  have hnew : (es.filter fun e => !dn.toArray.contains e.born).filter (fun e => decide (e.born ≥ ck)) = #[] := by
    apply Array.toList_inj.1
    simp only [Array.toList_filter]
    rw [List.filter_eq_nil_iff]
    intro e he
    have := (hborn e (List.mem_filter.1 he).1).2
    simp; omega
  have hold : ∀ e, e ∈ ((es.filter fun e => !dn.toArray.contains e.born).filter (fun e => decide (e.born < ck))) ↔ e ∈ es.toList ∧ e.born ∉ dn := by
    intro e
    simp only [Array.mem_filter, Array.mem_toList_iff]
    constructor
    · rintro ⟨⟨a, b⟩, _⟩; exact ⟨a, by simpa using b⟩
    · rintro ⟨a, b⟩; exact ⟨⟨a, by simpa using b⟩, by simpa using (hborn e (by simpa using a)).2⟩
  refine .inr ⟨m, ck, dn.toArray, ck, es, ck, hr, h1, ?_, ?_, ?_⟩
  · by_cases he : es.isEmpty
    · simp [he]
    · have : ∃ e, e ∈ es.toList := by
        cases hl : es.toList with
        | nil => exfalso; apply he; simp [Array.isEmpty, ← Array.length_toList, hl]
        | cons e l => exact ⟨e, by simp⟩
      obtain ⟨e, hme⟩ := this
      have hlt := (hborn e hme).2
      have : es.all (fun x => decide (x.born ≥ ck)) = false := by
        rw [← Array.all_toList, List.all_eq_false]
        exact ⟨e, hme, by simp; omega⟩
      simp [this]
  · unfold cands
    simp only [hnew]
    intro h0
    simp only [Array.size_append, Array.size_map] at h0
    split at h0
    · simp at h0
    · rename_i hne
      apply hne
      simpa using h0
  · intro c hc
    unfold cands at hc
    simp only [hnew] at hc
    cases c with
    | none =>
      apply hend
      simp only [Array.toList_append, List.mem_append] at hc
      rcases hc with hc | hc
      · split at hc
        · rename_i hemp
          intro b hb
          apply Classical.byContradiction
          intro hnb
          obtain ⟨i, hi, rfl⟩ := List.getElem_of_mem hb
          have hi1 : i < kv.length := by omega
          have : mkE ek ev kv[i] bs[i] ∈ es.toList := by
            rw [h2]
            have hlen : i < (List.zipWith (mkE ek ev) kv bs).length := by simp; omega
            have e : (List.zipWith (mkE ek ev) kv bs)[i] = mkE ek ev kv[i] bs[i] := by simp
            rw [← e]; exact List.getElem_mem hlen
          have h7 := (hold _).2 ⟨this, by simpa [mkE] using hnb⟩
          simp only [Array.isEmpty_iff] at hemp
          rw [hemp] at h7
          simp at h7
        · simp at hc
      · simp at hc
    | some e =>
      simp only [Array.toList_append, List.mem_append] at hc
      rcases hc with hc | hc
      · split at hc <;> simp at hc
      · simp only [Array.append_empty, Array.toList_map, List.mem_map, Option.some.injEq, exists_eq_right, Array.mem_toList_iff] at hc
        obtain ⟨a1, a2⟩ := (hold e).1 hc
        obtain ⟨i, k, v, b, b1, b2, rfl⟩ := hmem e a1
        have := hnext i b k v b1 b2 a2
        simpa [mkE] using this

omit [DecidableEq κ] in
/-- the entry at which a walk stands -/
theorem i_ent {ek : κ → Value} {ev : ν → Value} {N : Num} {Γ : Ctx} {h : Heap} {r m : Nat} {kv : List (κ × ν)} {bs : List Nat} {ck : Nat} (hm : MapB ek ev h m kv bs ck) {dn : List Nat} {b : Nat} (hr : IterB h r m ck (dn ++ [b])) {i : Nat} {k : κ} {v : ν}
    (h1 : kv[i]? = some (k, v)) (h2 : bs[i]? = some b) {K : Value → Heap → Prop} (hK : K (.tuple #[ek k, ev v]) h) : efW N Γ .ent [.pointer (some ⟨r, 0, none⟩)] h K := by
  obtain ⟨es, a1, a2, a3, a4, a5, a6⟩ := hm
  have hfind : ∀ (kv : List (κ × ν)) (bs : List Nat) (i : Nat), bs.length = kv.length → bs.Nodup → kv[i]? = some (k, v) → bs[i]? = some b → (List.zipWith (mkE ek ev) kv bs).find? (fun e => e.born == b) = some (mkE ek ev (k, v) b) := by
    intro kv
    induction kv with
    | nil => intro bs i _ _ h; simp at h
    | cons p kr ih =>
      intro bs i hl hn hk hb
      cases bs with
      | nil => simp at hl
      | cons b' bs =>
        cases i with
        | zero => simp at hk hb; subst hk; subst hb; simp [mkE]
        | succ i =>
          simp only [List.getElem?_cons_succ] at hk hb
          simp only [List.nodup_cons] at hn
          have : b' ≠ b := by rintro rfl; exact hn.1 (List.mem_of_getElem? hb)
          simp only [List.zipWith_cons_cons, List.find?_cons]
          have hf : ((mkE ek ev p b').born == b) = false := by simp [mkE, this]
          rw [hf]
          exact ih bs i (by simpa using hl) hn.2 hk hb
  refine ⟨m, ck, (dn ++ [b]).toArray, ck, b, es, hr, by simp, a1, mkE ek ev (k, v) b, ?_, hK⟩
  rw [← Array.find?_toList, a2]
  exact hfind kv bs i a3 a4 h1 h2
end
end Go.Cw
/- Own slices, each a block of its own. -/
namespace Go.Cw
open Go

def blkOf : Value → Option Nat
  | .slice (some a) _ _ => some a.block
  | _ => none
/-- an own slice: nil, or the whole of a block -/
def SlB {α : Type} (enc : α → List Value) (sz : Nat) (g : Heap) (v : Value) (l : List α) : Prop :=
  ∃ a cap, v = .slice a l.length cap ∧ l.length ≤ cap ∧ cap ≤ maxLen ∧
    ((a = none ∧ l = [] ∧ cap = 0) ∨ ∃ b c t, a = some ⟨b, 0, none⟩ ∧ g b = some (.cells c t (0, 0)) ∧ c.size = cap * sz ∧ ∀ i, i < (l.flatMap enc).length → c[i]? = (l.flatMap enc)[i]?)
theorem SlB.own {α : Type} {enc : α → List Value} {sz : Nat} {g h0 : Heap} {v : Value} {l : List α} (hs : SlB enc sz g v l) (hl : Heap.le h0 g) (hb : ∀ b, blkOf v = some b → h0 b = none) : OwnS enc sz h0 g v l := by
  obtain ⟨a, cap, rfl, h1, h2, h3⟩ := hs
  refine ⟨hl, a, cap, rfl, h1, h2, h3.imp id ?_⟩
  rintro ⟨b, c, t, rfl, h4, h5, h6⟩
  exact ⟨b, c, t, rfl, hb b rfl, h4, h5, h6⟩
theorem OwnS.slb {α : Type} {enc : α → List Value} {sz : Nat} {g h0 : Heap} {v : Value} {l : List α} (hs : OwnS enc sz h0 g v l) : SlB enc sz g v l ∧ ∀ b, blkOf v = some b → h0 b = none := by
  obtain ⟨_, a, cap, rfl, h1, h2, h3⟩ := hs
  refine ⟨⟨a, cap, rfl, h1, h2, h3.imp id ?_⟩, ?_⟩
  · rintro ⟨b, c, t, rfl, _, h4, h5, h6⟩
    exact ⟨b, c, t, rfl, h4, h5, h6⟩
  · intro b hb
    rcases h3 with ⟨rfl, _⟩ | ⟨b', c, t, rfl, h3, _⟩
    · simp [blkOf] at hb
    · simp only [blkOf, Option.some.injEq] at hb; subst hb; exact h3
theorem SlB.nil {α : Type} {enc : α → List Value} {sz : Nat} {g : Heap} : SlB enc sz g (.slice none 0 0) ([] : List α) := ⟨none, 0, rfl, by simp, by simp [maxLen], .inl ⟨rfl, rfl, rfl⟩⟩
theorem SlB.mem {α : Type} {enc : α → List Value} {sz : Nat} {g : Heap} {v : Value} {l : List α} (hs : SlB enc sz g v l) {b : Nat} (hb : blkOf v = some b) : g b ≠ none := by
  obtain ⟨a, cap, rfl, h1, h2, h3⟩ := hs
  rcases h3 with ⟨rfl, _⟩ | ⟨b', c, t, rfl, h3, _⟩
  · simp [blkOf] at hb
  · simp only [blkOf, Option.some.injEq] at hb; subst hb; rw [h3]; simp
theorem SlB.same {α : Type} {enc : α → List Value} {sz : Nat} {g g' : Heap} {v : Value} {l : List α} (hs : SlB enc sz g v l) (hb : ∀ b, blkOf v = some b → g' b = g b) : SlB enc sz g' v l := by
  obtain ⟨a, cap, rfl, h1, h2, h3⟩ := hs
  refine ⟨a, cap, rfl, h1, h2, h3.imp id ?_⟩
  rintro ⟨b, c, t, rfl, h4, h5, h6⟩
  exact ⟨b, c, t, rfl, by rw [hb b rfl]; exact h4, h5, h6⟩
theorem SlB.le {α : Type} {enc : α → List Value} {sz : Nat} {g g' : Heap} {v : Value} {l : List α} (hs : SlB enc sz g v l) (hl : Heap.le g g') : SlB enc sz g' v l := by
  refine hs.same fun b hb => ?_
  cases hg : g b with
  | none => exact absurd hg (hs.mem hb)
  | some o => exact hl b o hg
theorem SlB.sl {α : Type} {enc : α → List Value} {sz : Nat} (he : ∀ x, (enc x).length = sz) {g : Heap} {v : Value} {l : List α} (hs : SlB enc sz g v l) : Sl enc g v l := by
  have := hs.own (h0 := fun _ => none) (fun b o h => by cases h) (fun _ _ => rfl)
  exact this.sl he
theorem SlB.one {α : Type} {enc : α → List Value} {sz : Nat} {g : Heap} {v : Value} {l : List α} (hs : SlB enc sz g v l) : Cw.one v = true ∧ v.cells = #[v] := by
  obtain ⟨a, cap, rfl, _⟩ := hs; exact ⟨rfl, rfl⟩

/-- a new slice -/
theorem i_bslB {α : Type} (enc : α → List Value) (sz : Nat) (he : ∀ x, (enc x).length = sz) (l : List α) {N : Num} {Γ : Ctx} {h : Heap} {t n : Nat} {c : Array Value} {K : Value → Heap → Prop} (hc : c.toList = l.flatMap enc) (hn : n = l.length) (hm : l.length ≤ maxLen)
    (hx : ∀ v b h', Heap.le h h' → h b = none → blkOf v = some b → SlB enc sz (fr h h') v l → K v h') : efW N Γ (.bsl t n) [.agg c] h K := by
  subst hn
  intro b hb
  refine hx _ b _ ((Heap.le.refl h).new hb _) hb rfl ⟨_, _, rfl, Nat.le_refl _, hm, .inr ⟨b, c, N.tid t, rfl, by simp [fr, hb, Heap.set], ?_, ?_⟩⟩
  · rw [← Array.length_toList, hc, flat_len he]
  · intro i hi
    rw [← Array.getElem?_toList, hc]

/-- append to an own slice -/
theorem i_appB {α : Type} {enc : α → List Value} {sz : Nat} (he : ∀ x, (enc x).length = sz) {N : Num} {Γ : Ctx} {g h : Heap} {t bytes : Nat} {v x : Value} {l l' : List α} (hone : ∀ x ∈ l', (enc x).all Cw.one = true)
    (hs : SlB enc sz g v l) (hg : Heap.le g h) (hx : Sl enc h x l') (hlen : (l.length + l'.length) * (bytes + 1) ≤ 1073741824) {K : Value → Heap → Prop}
    (hK : ∀ v' h' g', SlB enc sz g' v' (l ++ l') → Step g h g' h' → (∀ b, blkOf v ≠ some b → blkOf v' ≠ some b → g' b = g b) → (∀ b, blkOf v' = some b → blkOf v = some b ∨ h b = none) →
      (∀ b o, h b = some o → blkOf v ≠ some b → h' b = some o) → K v' h') : efW N Γ (.app t sz bytes) [v, x] h K := by
  have hown : OwnS enc sz (fun b => if blkOf v = some b then none else h b) h v l := by
    refine (hs.le hg).own ?_ ?_
    · intro b o hb; dsimp only at hb; split at hb
      · cases hb
      · exact hb
    · intro b hb; simp [hb]
  refine i_app1 he hone hown hx hlen fun v' h' ho => ?_
  obtain ⟨h1, h2⟩ := ho.slb
  have hle := ho.1
  refine hK v' h' (fun b => if blkOf v' = some b then h' b else if blkOf v = some b then none else g b) ?_ ⟨?_, ?_, ?_⟩ ?_ ?_ ?_
  · exact h1.same fun b hb => by simp [hb]
  · intro b o hb
    dsimp only at hb
    split at hb
    · exact hb
    · split at hb
      · cases hb
      · rename_i hv; exact hle b o (by simp [hv]; exact hg b o hb)
  · intro b o hb hgb
    have hv : blkOf v ≠ some b := fun e => hs.mem e hgb
    exact hle b o (by simp [hv]; exact hb)
  · intro b hb hgb
    have hv : blkOf v ≠ some b := fun e => hs.mem e hgb
    have hv' : blkOf v' ≠ some b := by
      intro e
      have := h2 b e
      simp only [hv, if_false] at this
      exact hb this
    simp [hv, hv', hgb]
  · intro b hv hv'; simp [hv, hv']
  · intro b hb
    have := h2 b hb
    by_cases e : blkOf v = some b
    · exact .inl e
    · simp only [e, if_false] at this; exact .inr this
  · intro b o hb hv
    exact hle b o (by simp [hv]; exact hb)
end Go.Cw
namespace Go.Cw
open Go

def S160 : Spec := fun args h K => ∃ v w l, args = [v, w] ∧ Sl encI h v l ∧ Sl encI h w l ∧ l.length ≤ 1000 ∧ K (.bool true) h
theorem F160_ok {N : Num} {Γ : Ctx} [GoodC Γ] : Sat S160 (SF N Γ F160) := by
  rintro _ h K ⟨v, w, l, rfl, hv, hw, hll, hK⟩
  refine i_fun rfl ?_
  simp only [F160, env0, List.map, List.length, List.replicate, List.cons_append, List.nil_append, Nat.reduceSub, Nat.reduceAdd]
  have Rv := hv.rules1 (fun n => .int .i64 n) (fun _ => rfl) 0
  have Rw := hw.rules1 (fun n => .int .i64 n) (fun _ => rfl) 0
  try simp (disch := first | omega | (simp only [PL]; omega)) only [PS, P1, P2, P3, P4, P5, P6, P7, P8, PA, PB, PC, Nat.reduceAdd, Nat.reduceSub, Nat.reduceMul, Nat.reduceLeDiff, Nat.reduceEqDiff, Nat.succ_ne_self, reduceCtorEq, Int.reduceToNat, Int.cast_ofNat_Int, Int.reduceEq, Int.reduceNe, Int.reduceLT, Int.reduceLE, Rv, Rw]
  refine i_loop (fun i : Nat => [some v, some w, none, some (.int .i64 i), none, none, none]) (fun i h1 => h1 = h ∧ i ≤ l.length) (fun i => l.length - i) 0 (by try simp only [Pe, and_true, true_and, and_self]; rfl) ⟨rfl, by omega⟩ ?_
  rintro i h1 ⟨rfl, hi⟩
  try simp (disch := first | omega | (simp only [PL]; omega)) only [PS, P1, P2, P3, P4, P5, P6, P7, P8, PA, PB, PC, Nat.reduceAdd, Nat.reduceSub, Nat.reduceMul, Nat.reduceLeDiff, Nat.reduceEqDiff, Nat.succ_ne_self, reduceCtorEq, Int.reduceToNat, Int.cast_ofNat_Int, Int.reduceEq, Int.reduceNe, Int.reduceLT, Int.reduceLE, Rv]
  refine i_cond (fun c1 => ?_) (fun c1 => ?_)
  · have hi2 : i < l.length := by omega
    try simp (disch := first | omega | (simp only [PL]; omega)) only [PS, P1, P2, P3, P4, P5, P6, P7, P8, PA, PB, PC, Nat.reduceAdd, Nat.reduceSub, Nat.reduceMul, Nat.reduceLeDiff, Nat.reduceEqDiff, Nat.succ_ne_self, reduceCtorEq, Int.reduceToNat, Int.cast_ofNat_Int, Int.reduceEq, Int.reduceNe, Int.reduceLT, Int.reduceLE, Rv, Rw]
    exact k_loop (i + 1) (by omega) (by try simp only [Pe, and_true, true_and, and_self]) ⟨rfl, by omega⟩
  · try simp (disch := first | omega | (simp only [PL]; omega)) only [PS, P1, P2, P3, P4, P5, P6, P7, P8, PA, PB, PC, Nat.reduceAdd, Nat.reduceSub, Nat.reduceMul, Nat.reduceLeDiff, Nat.reduceEqDiff, Nat.succ_ne_self, reduceCtorEq, Int.reduceToNat, Int.cast_ofNat_Int, Int.reduceEq, Int.reduceNe, Int.reduceLT, Int.reduceLE]
    exact hK
def S176 : Spec := fun args h K => args = [.int .i64 7] ∧ K (.string (str [55])) h
def S152 : Spec := fun args h K => args = [.int .i64 7] ∧ K (.string (str [99, 114, 97, 116, 101, 119, 97, 116, 99, 104, 58, 32, 101, 114, 114, 111, 114, 32, 55])) h
theorem F152_ok {N : Num} {Γ : Ctx} [GoodC Γ] (H176 : Sat S176 (Γ 176)) : Sat S152 (SF N Γ F152) := by
  rintro _ h K ⟨rfl, hK⟩
  refine i_fun rfl ?_
  simp only [F152, env0, List.map, List.length, List.replicate, List.cons_append, List.nil_append, Nat.reduceSub, Nat.reduceAdd]
  try simp (disch := first | omega | (simp only [PL]; omega)) only [PS, P1, P2, P3, P4, P5, P6, P7, P8, PA, PB, PC, Nat.reduceAdd, Nat.reduceSub, Nat.reduceMul, Nat.reduceLeDiff, Nat.reduceEqDiff, Nat.succ_ne_self, reduceCtorEq, Int.reduceToNat, Int.cast_ofNat_Int, Int.reduceEq, Int.reduceNe, Int.reduceLT, Int.reduceLE]
  refine i_call H176 ⟨rfl, ?_⟩
  try simp (disch := first | omega | (simp only [PL]; omega)) only [PS, P1, P2, P3, P4, P5, P6, P7, P8, PA, PB, PC, Nat.reduceAdd, Nat.reduceSub, Nat.reduceMul, Nat.reduceLeDiff, Nat.reduceEqDiff, Nat.succ_ne_self, reduceCtorEq, Int.reduceToNat, Int.cast_ofNat_Int, Int.reduceEq, Int.reduceNe, Int.reduceLT, Int.reduceLE]
  exact hK
def encE (N : Num) (k : Nat) : List Value := [errV N k]
def S157 : Spec := fun args h K => args = [] ∧ ∀ h', Heap.le h h' → K (.bool true) h'
theorem F157_ok {N : Num} {Γ : Ctx} [GoodC Γ] (H19 : Sat (S19 N) (Γ 19)) (H160 : Sat S160 (Γ 160)) (H152 : Sat S152 (Γ 152)) : Sat S157 (SF N Γ F157) := by
  rintro _ h K ⟨rfl, hK⟩
  refine i_fun rfl ?_
  simp only [F157, env0, List.map, List.length, List.replicate, List.cons_append, List.nil_append, Nat.reduceSub, Nat.reduceAdd]
  try simp (disch := first | omega | (simp only [PL]; omega)) only [PS, P1, P2, P3, P4, P5, P6, P7, P8, PA, PB, PC, Nat.reduceAdd, Nat.reduceSub, Nat.reduceMul, Nat.reduceLeDiff, Nat.reduceEqDiff, Nat.succ_ne_self, reduceCtorEq, Int.reduceToNat, Int.cast_ofNat_Int, Int.reduceEq, Int.reduceNe, Int.reduceLT, Int.reduceLE]
  refine i_bslB encI 1 (fun _ => rfl) [8, 11, 4, 4, 4, 8, 12, 1000, 50, 50, 8, 6, 12, 50, 2000, 100, 300, 1, 2, 3, 1, 2, 3] rfl rfl (by simp [maxLen]) fun x1 b1 h1 hle1 hb1 hx1 hS1 => ?_
  try simp (disch := first | omega | (simp only [PL]; omega)) only [PS, P1, P2, P3, P4, P5, P6, P7, P8, PA, PB, PC, Nat.reduceAdd, Nat.reduceSub, Nat.reduceMul, Nat.reduceLeDiff, Nat.reduceEqDiff, Nat.succ_ne_self, reduceCtorEq, Int.reduceToNat, Int.cast_ofNat_Int, Int.reduceEq, Int.reduceNe, Int.reduceLT, Int.reduceLE]
  refine i_bslB encI 1 (fun _ => rfl) [8, 11, 4, 4, 4, 8, 12, 1000, 50, 50, 8, 6, 12, 50, 2000, 100, 300, 1, 2, 3, 1, 2, 3] rfl rfl (by simp [maxLen]) fun x2 b2 h2 hle2 hb2 hx2 hS2 => ?_
  try simp (disch := first | omega | (simp only [PL]; omega)) only [PS, P1, P2, P3, P4, P5, P6, P7, P8, PA, PB, PC, Nat.reduceAdd, Nat.reduceSub, Nat.reduceMul, Nat.reduceLeDiff, Nat.reduceEqDiff, Nat.succ_ne_self, reduceCtorEq, Int.reduceToNat, Int.cast_ofNat_Int, Int.reduceEq, Int.reduceNe, Int.reduceLT, Int.reduceLE]
  refine i_bslB (encE N) 1 (fun _ => rfl) [1, 2, 3, 4, 5, 6, 7] rfl rfl (by simp [maxLen]) fun x3 b3 h3 hle3 hb3 hx3 hS3 => ?_
  have hle03 := hle1.trans (hle2.trans hle3)
  have A1 := (SlB.sl (enc := encI) (sz := 1) (fun _ => rfl) (hS1.le (fr_le _ _))).le (hle2.trans hle3)
  have A2 := (SlB.sl (enc := encI) (sz := 1) (fun _ => rfl) (hS2.le (fr_le _ _))).le hle3
  have A3 := SlB.sl (enc := encE N) (sz := 1) (fun _ => rfl) (hS3.le (fr_le _ _))
  have R3 := A3.rules1 (errV N) (fun _ => rfl) 0
  have hl7 : ([1, 2, 3, 4, 5, 6, 7] : List Nat).length = 7 := rfl
  rw [hl7] at R3
  try simp (disch := first | omega | (simp only [PL]; omega)) only [PS, P1, P2, P3, P4, P5, P6, P7, P8, PA, PB, PC, Nat.reduceAdd, Nat.reduceSub, Nat.reduceMul, Nat.reduceLeDiff, Nat.reduceEqDiff, Nat.succ_ne_self, reduceCtorEq, Int.reduceToNat, Int.cast_ofNat_Int, Int.reduceEq, Int.reduceNe, Int.reduceLT, Int.reduceLE]
  refine i_loop (fun i : Nat => [none, some x1, some x2, some x3, some (.int .i64 i), none, none, none, none, none, none, none, none, none]) (fun i h4 => h4 = h3 ∧ i ≤ 7) (fun i => 7 - i) 0 (by try simp only [Pe, and_true, true_and, and_self]; rfl) ⟨rfl, by omega⟩ ?_
  rintro i h4 ⟨rfl, hi⟩
  try simp (disch := first | omega | (simp only [PL]; omega)) only [PS, P1, P2, P3, P4, P5, P6, P7, P8, PA, PB, PC, Nat.reduceAdd, Nat.reduceSub, Nat.reduceMul, Nat.reduceLeDiff, Nat.reduceEqDiff, Nat.succ_ne_self, reduceCtorEq, Int.reduceToNat, Int.cast_ofNat_Int, Int.reduceEq, Int.reduceNe, Int.reduceLT, Int.reduceLE, R3]
  refine i_cond (fun c1 => ?_) (fun c1 => ?_)
  · have hi2 : i < 7 := by omega
    have hd : ([1, 2, 3, 4, 5, 6, 7] : List Nat).getD i 0 = i + 1 := by
      have : ∀ j : Fin 7, ([1, 2, 3, 4, 5, 6, 7] : List Nat).getD j.1 0 = j.1 + 1 := by decide
      exact this ⟨i, hi2⟩
    try simp (disch := first | omega | (simp only [PL]; omega)) only [PS, P1, P2, P3, P4, P5, P6, P7, P8, PA, PB, PC, Nat.reduceAdd, Nat.reduceSub, Nat.reduceMul, Nat.reduceLeDiff, Nat.reduceEqDiff, Nat.succ_ne_self, reduceCtorEq, Int.reduceToNat, Int.cast_ofNat_Int, Int.reduceEq, Int.reduceNe, Int.reduceLT, Int.reduceLE, R3, hd]
    refine i_call H19 ⟨i + 1, i + 1, by simp, ?_⟩
    try simp (disch := first | omega | (simp only [PL]; omega)) only [PS, P1, P2, P3, P4, P5, P6, P7, P8, PA, PB, PC, Nat.reduceAdd, Nat.reduceSub, Nat.reduceMul, Nat.reduceLeDiff, Nat.reduceEqDiff, Nat.succ_ne_self, reduceCtorEq, Int.reduceToNat, Int.cast_ofNat_Int, Int.reduceEq, Int.reduceNe, Int.reduceLT, Int.reduceLE]
    exact k_loop (i + 1) (by omega) (by try simp only [Pe, and_true, true_and, and_self]) ⟨rfl, by omega⟩
  · try simp (disch := first | omega | (simp only [PL]; omega)) only [PS, P1, P2, P3, P4, P5, P6, P7, P8, PA, PB, PC, Nat.reduceAdd, Nat.reduceSub, Nat.reduceMul, Nat.reduceLeDiff, Nat.reduceEqDiff, Nat.succ_ne_self, reduceCtorEq, Int.reduceToNat, Int.cast_ofNat_Int, Int.reduceEq, Int.reduceNe, Int.reduceLT, Int.reduceLE]
    refine i_call H160 ⟨x1, x2, _, rfl, A1, A2, by simp, ?_⟩
    try simp (disch := first | omega | (simp only [PL]; omega)) only [PS, P1, P2, P3, P4, P5, P6, P7, P8, PA, PB, PC, Nat.reduceAdd, Nat.reduceSub, Nat.reduceMul, Nat.reduceLeDiff, Nat.reduceEqDiff, Nat.succ_ne_self, reduceCtorEq, Int.reduceToNat, Int.cast_ofNat_Int, Int.reduceEq, Int.reduceNe, Int.reduceLT, Int.reduceLE]
    refine i_call H152 ⟨rfl, ?_⟩
    try simp (disch := first | omega | (simp only [PL]; omega)) only [PS, P1, P2, P3, P4, P5, P6, P7, P8, PA, PB, PC, Nat.reduceAdd, Nat.reduceSub, Nat.reduceMul, Nat.reduceLeDiff, Nat.reduceEqDiff, Nat.succ_ne_self, reduceCtorEq, Int.reduceToNat, Int.cast_ofNat_Int, Int.reduceEq, Int.reduceNe, Int.reduceLT, Int.reduceLE]
    exact hK _ hle03
end Go.Cw
/- From a row's data to what lies in memory. -/
namespace Go.Cw
open Go

inductive Ty where
  | int | str | bool | nil
  | cons (a b : Ty)
  | sl (e : Ty)
  deriving DecidableEq
def Ty.size : Ty → Nat
  | .int | .str | .bool | .sl _ => 1
  | .nil => 0
  | .cons a b => a.size + b.size

/-- all that lies in memory -/
def full (w : World) : Heap := fun b => w.heap[b]?
theorem full_sub (w : World) : (full w).sub w := fun _ _ h => h

def Mat (w : World) : Ty → List Value → Prop
  | .int, cs => ∃ n, cs = [.int .i64 n] ∧ (Lit.int .i64 n).wf = true
  | .str, cs => ∃ s, cs = [.string s] ∧ s.size ≤ maxLen
  | .bool, cs => ∃ b, cs = [.bool b]
  | .nil, cs => cs = []
  | .cons a b, cs => ∃ x y, cs = x ++ y ∧ Mat w a x ∧ Mat w b y
  | .sl e, cs => ∃ a n cap, cs = [.slice a n cap] ∧ n ≤ cap ∧ cap ≤ maxLen ∧ (n = 0 ∨ ∃ g, a = some g ∧ ∃ rows : List (List Value), rows.length = n ∧ rowAt (full w) g rows.flatten ∧ ∀ r ∈ rows, Mat w e r)

def chkFs (P : Program) (chk : TypeId → Ty → Bool) : List Field → Nat → Ty → Bool
  | [], _, .nil => true
  | f :: r, off, .cons a b => f.offset == off && P.cellsOf f.type == a.size && chk f.type a && chkFs P chk r (off + a.size) b
  | _, _, _ => false
def chkAr (P : Program) (chk : TypeId → Ty → Bool) (e : TypeId) : Nat → Ty → Bool
  | 0, .nil => true
  | n + 1, .cons a b => P.cellsOf e == a.size && chk e a && chkAr P chk e n b
  | _, _ => false
/-- is a type laid so? -/
def chk (P : Program) : Nat → TypeId → Ty → Bool
  | 0, _, _ => false
  | n + 1, t, ty =>
    match P.underlying t with
    | some (.int .i64) => ty == .int
    | some .string => ty == .str
    | some .bool => ty == .bool
    | some (.slice e) =>
      match ty with
      | .sl x => P.cellsOf e == x.size && decide (0 < x.size) && chk P n e x
      | _ => false
    | some (.struct fs) => P.cellsOf t == ty.size && chkFs P (chk P n) fs.toList 0 ty
    | some (.array k e) => P.cellsOf t == ty.size && chkAr P (chk P n) e k ty
    | _ => false

theorem mapM_some {α β : Type} {f : α → Option β} : ∀ {l : List α} {r : List β}, l.mapM f = some r → r.length = l.length ∧ ∀ i (h : i < l.length) (h' : i < r.length), f l[i] = some r[i] := by
  intro l
  induction l with
  | nil => intro r h; simp at h; subst h; simp
  | cons a l ih =>
    intro r h
    simp only [List.mapM_cons, Option.bind_eq_bind, Option.bind_eq_some_iff, Option.pure_def, Option.some.injEq] at h
    obtain ⟨y, h1, ys, h2, rfl⟩ := h
    obtain ⟨h3, h4⟩ := ih h2
    refine ⟨by simp [h3], fun i hi hi' => ?_⟩
    cases i with
    | zero => simpa using h1
    | succ i => simpa using h4 i (by simpa using hi) (by simpa using hi')

theorem cells_row {w : World} {a : Addr} {n : Nat} {cs : List Value} (h : w.cells? 0 a n = some cs) (hn : 0 < n) : cs.length = n ∧ a.spot = none ∧ ∀ i (hi : i < cs.length), w.cell? (a.add i) = some cs[i] := by
  simp only [World.cells?, Nat.zero_le, if_true] at h
  obtain ⟨h1, h2⟩ := mapM_some h
  have hl : cs.length = n := by simpa using h1
  refine ⟨hl, ?_, fun i hi => ?_⟩
  · have h3 := h2 0 (by simpa using hn) (by omega)
    simp only [List.getElem_range, addr_zero] at h3
    exact World.cell?_spot h3
  · have := h2 i (by simpa using by omega) hi
    simpa using this

theorem row_of_cells {w : World} {a : Addr} {cs : List Value} (hs : a.spot = none) (h : ∀ i (hi : i < cs.length), w.cell? (a.add i) = some cs[i]) (hne : cs ≠ []) : rowAt (full w) a cs := by
  have hb : ∀ i (hi : i < cs.length), ∃ c t fz, w.heap[a.block]? = some (.cells c t fz) ∧ c[a.off + i]? = some cs[i] := by
    intro i hi
    have h1 := h i hi
    rw [addr_add' a hs] at h1
    simp only [World.cell?] at h1
    split at h1
    · rename_i c t fz hh; exact ⟨c, t, fz, hh, by simpa using h1⟩
    · cases h1
  have hl : 0 < cs.length := List.length_pos_iff.2 hne
  obtain ⟨c, t, fz, h1, _⟩ := hb 0 hl
  refine ⟨hs, c, t, fz, h1, ?_, ?_⟩
  · obtain ⟨c', t', fz', h2, h3⟩ := hb (cs.length - 1) (by omega)
    rw [h1] at h2; cases h2
    have := (Array.getElem?_eq_some_iff.1 h3).1
    omega
  · intro i hi
    obtain ⟨c', t', fz', h2, h3⟩ := hb i hi
    rw [h1] at h2; cases h2
    rw [h3, List.getElem?_eq_getElem hi]

variable {H : Type} {enc : TypeId × Value → H} {P : Program} {w : World}

theorem mat_size : ∀ (ty : Ty) (cs : List Value), Mat w ty cs → cs.length = ty.size := by
  intro ty
  induction ty with
  | int => rintro _ ⟨n, rfl, _⟩; rfl
  | str => rintro _ ⟨n, rfl, _⟩; rfl
  | bool => rintro _ ⟨n, rfl⟩; rfl
  | nil => rintro _ rfl; rfl
  | cons a b iha ihb => rintro _ ⟨x, y, rfl, h1, h2⟩; simp [iha _ h1, ihb _ h2, Ty.size]
  | sl e _ => rintro _ ⟨a, n, cap, rfl, _⟩; rfl

theorem mat_fs {n : Nat} (ih : ∀ (t : TypeId) (ty : Ty) (fuel : Nat) (cs : List Value) (x : DataW H × List MemPlace), chk P n t ty = true → DataW.trod enc P w 0 (fun _ => true) true fuel t cs = some x → Mat w ty cs) (fuel : Nat) (cs : List Value) :
    ∀ (fs : List Field) (off : Nat) (ty : Ty), chkFs P (chk P n) fs off ty = true → cs.length = off + ty.size →
      (∀ f ∈ fs, ∃ x, DataW.trod enc P w 0 (fun _ => true) true fuel f.type ((cs.drop f.offset).take (P.cellsOf f.type)) = some x) → Mat w ty (cs.drop off) := by
  intro fs
  induction fs with
  | nil =>
    intro off ty h1 h2 _
    cases ty <;> simp [chkFs] at h1
    simp only [Ty.size] at h2
    show cs.drop off = []
    exact List.drop_eq_nil_of_le (by omega)
  | cons f r ihr =>
    intro off ty h1 h2 h3
    cases ty with
    | cons a b =>
      simp only [chkFs, Bool.and_eq_true, beq_iff_eq] at h1
      obtain ⟨⟨⟨e1, e2⟩, e3⟩, e4⟩ := h1
      obtain ⟨y, h5⟩ := h3 f (by simp)
      simp only [Ty.size] at h2
      refine ⟨(cs.drop off).take a.size, cs.drop (off + a.size), ?_, ?_, ?_⟩
      · rw [← List.drop_drop, List.take_append_drop]
      · rw [e1, e2] at h5; exact ih _ _ _ _ _ e3 h5
      · exact ihr _ _ e4 (by omega) fun g hg => h3 g (by simp [hg])
    | _ => simp [chkFs] at h1

theorem mat_ar {n : Nat} (ih : ∀ (t : TypeId) (ty : Ty) (fuel : Nat) (cs : List Value) (x : DataW H × List MemPlace), chk P n t ty = true → DataW.trod enc P w 0 (fun _ => true) true fuel t cs = some x → Mat w ty cs) (fuel : Nat) (cs : List Value) (e : TypeId) :
    ∀ (k i : Nat) (ty : Ty), chkAr P (chk P n) e k ty = true → cs.length = i * P.cellsOf e + ty.size →
      (∀ j, j < k → ∃ x, DataW.trod enc P w 0 (fun _ => true) true fuel e ((cs.drop ((i + j) * P.cellsOf e)).take (P.cellsOf e)) = some x) → Mat w ty (cs.drop (i * P.cellsOf e)) := by
  intro k
  induction k with
  | zero =>
    intro i ty h1 h2 _
    cases ty <;> simp [chkAr] at h1
    simp only [Ty.size] at h2
    show cs.drop _ = []
    exact List.drop_eq_nil_of_le (by omega)
  | succ k ihk =>
    intro i ty h1 h2 h3
    cases ty with
    | cons a b =>
      simp only [chkAr, Bool.and_eq_true, beq_iff_eq] at h1
      obtain ⟨⟨e2, e3⟩, e4⟩ := h1
      simp only [Ty.size] at h2
      obtain ⟨x, h5⟩ := h3 0 (by omega)
      have e6 : i * P.cellsOf e + a.size = (i + 1) * P.cellsOf e := by rw [Nat.add_mul, e2]; omega
      refine ⟨(cs.drop (i * P.cellsOf e)).take a.size, cs.drop ((i + 1) * P.cellsOf e), ?_, ?_, ?_⟩
      · rw [← e6, ← List.drop_drop, List.take_append_drop]
      · rw [Nat.add_zero] at h5; rw [← e2]; exact ih _ _ _ _ _ e3 h5
      · refine ihk (i + 1) b e4 (by omega) fun j hj => ?_
        have := h3 (j + 1) (by omega)
        rwa [show i + (j + 1) = i + 1 + j by omega] at this
    | _ => simp [chkAr] at h1

theorem mat_of_trod : ∀ (n : Nat) (t : TypeId) (ty : Ty) (fuel : Nat) (cs : List Value) (x : DataW H × List MemPlace), chk P n t ty = true → DataW.trod enc P w 0 (fun _ => true) true fuel t cs = some x → Mat w ty cs := by
  intro n
  induction n with
  | zero => intro t ty fuel cs x h; simp [chk] at h
  | succ n ih =>
    intro t ty fuel cs x hc h
    cases fuel with
    | zero => simp [DataW.trod] at h
    | succ fuel =>
      simp only [chk] at hc
      split at hc
      · rename_i hu
        simp only [beq_iff_eq] at hc; subst hc
        obtain ⟨m, rfl, _, h1⟩ := DataW.trod_int hu h
        exact ⟨m, rfl, h1⟩
      · rename_i hu
        simp only [beq_iff_eq] at hc; subst hc
        obtain ⟨m, rfl, _, h1⟩ := DataW.trod_string hu h
        exact ⟨m, rfl, h1⟩
      · rename_i hu
        simp only [beq_iff_eq] at hc; subst hc
        obtain ⟨m, rfl, _⟩ := DataW.trod_bool hu h
        exact ⟨m, rfl⟩
      · rename_i e hu
        split at hc
        · rename_i y
          simp only [Bool.and_eq_true, beq_iff_eq, decide_eq_true_eq] at hc
          obtain ⟨⟨e1, e2⟩, e3⟩ := hc
          rcases DataW.trod_slice hu h with ⟨rfl, _⟩ | ⟨a, len, cap, elems, rest, m, _, rfl, _, _, hl, hm, hlen, hel, _⟩
          · exact ⟨none, 0, 0, rfl, Nat.le_refl _, Nat.zero_le _, .inl rfl⟩
          · refine ⟨some a, len, cap, rfl, hl, hm, ?_⟩
            by_cases h0 : len = 0
            · exact .inl h0
            · have key : ∀ i, i < len → ∃ r, w.cells? 0 (a.add (i * P.cellsOf e)) (P.cellsOf e) = some r ∧ Mat w y r := by
                intro i hi
                have h5 := hel i hi
                rw [List.getElem?_eq_getElem (by omega), Option.bind_eq_some_iff] at h5
                obtain ⟨r, h6, h7⟩ := h5
                exact ⟨r, h6, ih _ _ _ _ _ e3 h7⟩
              have h9' : a.spot = none := by
                obtain ⟨r, h6, h7⟩ := key 0 (by omega)
                obtain ⟨_, h9, _⟩ := cells_row h6 (by omega)
                rw [Nat.zero_mul, addr_zero] at h9
                exact h9
              have hrows : ∀ k, k ≤ len → ∃ rows : List (List Value), rows.length = k ∧ (∀ r ∈ rows, Mat w y r) ∧ rows.flatten.length = k * y.size ∧ ∀ i (hi : i < rows.flatten.length), w.cell? (a.add i) = some rows.flatten[i] := by
                intro k
                induction k with
                | zero => intro _; exact ⟨[], rfl, by simp, by simp, by simp⟩
                | succ k ihk =>
                  intro hk
                  obtain ⟨rows, r1, r2, r3, r4⟩ := ihk (by omega)
                  obtain ⟨r, h6, h7⟩ := key k (by omega)
                  obtain ⟨h8, h9, h10⟩ := cells_row h6 (by omega)
                  refine ⟨rows ++ [r], by simp [r1], ?_, ?_, ?_⟩
                  · intro x hx; simp at hx; rcases hx with hx | rfl
                    · exact r2 x hx
                    · exact h7
                  · simp [List.flatten_append, r3, h8, e1, Nat.add_mul]
                  · intro i hi
                    have e5 : (rows ++ [r]).flatten = rows.flatten ++ r := by simp
                    simp only [e5] at hi ⊢
                    by_cases hlt : i < rows.flatten.length
                    · rw [List.getElem_append_left hlt]; exact r4 i hlt
                    · rw [List.getElem_append_right (by omega)]
                      simp only [List.length_append] at hi
                      have := h10 (i - rows.flatten.length) (by omega)
                      rw [← this, addr_add' a h9', addr_add' a h9', addr_add' _ rfl]
                      congr 2
                      simp only
                      rw [r3, e1]; omega
              obtain ⟨rows, r1, r2, r3, r4⟩ := hrows len (Nat.le_refl _)
              have hne : rows.flatten ≠ [] := by
                intro h; rw [h] at r3
                have : 0 < len * y.size := Nat.mul_pos (by omega) e2
                simp at r3; omega
              exact .inr ⟨a, rfl, rows, r1, row_of_cells h9' r4 hne, r2⟩
        · cases hc
      · rename_i fs hu
        simp only [Bool.and_eq_true, beq_iff_eq] at hc
        obtain ⟨xs, m, h0, _, h1, h2, h3⟩ := DataW.trod_struct hu h
        have := mat_fs (enc := enc) ih m cs fs.toList 0 ty hc.2 (by omega) (by
          intro f hf
          obtain ⟨i, hi, rfl⟩ := List.getElem_of_mem hf
          have hi' : i < fs.size := by simpa using hi
          have h4 := h3 i fs[i] (by simp [hi'])
          rw [List.getElem?_eq_getElem (by omega)] at h4
          exact ⟨_, by simpa using h4⟩)
        simpa using this
      · rename_i k e hu
        simp only [Bool.and_eq_true, beq_iff_eq] at hc
        obtain ⟨xs, m, h0, _, h1, h2, h3⟩ := DataW.trod_array hu h
        have := mat_ar (enc := enc) ih m cs e k 0 ty hc.2 (by omega) (by
          intro j hj
          have h4 := h3 j hj
          rw [List.getElem?_eq_getElem (by omega)] at h4
          exact ⟨_, by simpa using h4⟩)
        simpa using this
      · cases hc
end Go.Cw
namespace Go.Cw
open Go Go.RowKit

/-- a slice of things that are laid so -/
theorem mat_sl {w : World} {α : Type} {enc : α → List Value} {ty : Ty} {Good : α → Prop} (hc : ∀ cs, Mat w ty cs → ∃ x, Good x ∧ cs = enc x) {v : Value} (hm : Mat w (.sl ty) [v]) :
    ∃ l : List α, Sl enc (full w) v l ∧ (∀ x ∈ l, Good x) ∧ l.length ≤ maxLen := by
  obtain ⟨a, n, cap, e, h1, h2, h3⟩ := hm
  simp only [List.cons.injEq, and_true] at e
  subst e
  rcases h3 with rfl | ⟨g, rfl, rows, h4, h5, h6⟩
  · exact ⟨[], ⟨a, cap, rfl, by simp, .inl rfl⟩, by simp, by simp⟩
  · have key : ∀ rows : List (List Value), (∀ r ∈ rows, Mat w ty r) → ∃ l : List α, rows.flatten = l.flatMap enc ∧ l.length = rows.length ∧ ∀ x ∈ l, Good x := by
      intro rows
      induction rows with
      | nil => intro _; exact ⟨[], rfl, rfl, by simp⟩
      | cons r rows ih =>
        intro hr
        obtain ⟨l, a1, a2, a3⟩ := ih fun r hr' => hr r (by simp [hr'])
        obtain ⟨x, b1, b2⟩ := hc r (hr r (by simp))
        exact ⟨x :: l, by simp [a1, b2], by simp [a2], by simp; exact ⟨b1, a3⟩⟩
    obtain ⟨l, a1, a2, a3⟩ := key rows h6
    refine ⟨l, ⟨some g, cap, by rw [a2, h4], by rw [a2, h4]; exact h1, .inr ⟨g, rfl, by rw [← a1]; exact h5⟩⟩, a3, by rw [a2, h4]; omega⟩

theorem mat_int {w : World} {b : Ty} {cs : List Value} (h : Mat w (.cons .int b) cs) : ∃ n r, cs = .int .i64 n :: r ∧ Mat w b r := by
  obtain ⟨x, y, rfl, ⟨n, rfl, _⟩, h2⟩ := h
  exact ⟨n, y, rfl, h2⟩
theorem mat_str {w : World} {b : Ty} {cs : List Value} (h : Mat w (.cons .str b) cs) : ∃ (s : List UInt8) (r : List Value), cs = .string (str s) :: r ∧ s.length ≤ maxLen ∧ Mat w b r := by
  obtain ⟨x, y, rfl, ⟨n, rfl, h1⟩, h2⟩ := h
  exact ⟨n.data.toList, y, by rw [str_of]; rfl, by simpa using h1, h2⟩
theorem mat_one {w : World} {a b : Ty} {cs : List Value} (h : Mat w (.cons (.sl a) b) cs) : ∃ v r, cs = v :: r ∧ Mat w (.sl a) [v] ∧ Mat w b r := by
  obtain ⟨x, y, rfl, h1, h2⟩ := h
  have h1' := h1
  obtain ⟨a', n, cap, rfl, _⟩ := h1
  exact ⟨_, y, rfl, h1', h2⟩

def rdTy : Ty := .cons .int (.cons .int (.cons .int (.cons .str .nil)))
/-- a value of one cell -/
theorem mat_cell {w : World} {v : Value} {a : Option Addr} {n c : Nat} {ty : Ty} (he : v = .slice a n c) (h : Mat w ty v.cells.toList) : Mat w ty [v] := by subst he; simpa [Value.cells] using h
/-- what is proved of a law, as the row wants it -/
theorem law_calls {P : Program} {N : Num} {k : Nat} {f : FuncId} {args : List Value} {w : World} (hf : N.fid k = f) (h : GF P N k args (full w) fun v h' => v = .bool true ∧ Heap.le (full w) h') :
    Calls P f args.toArray w fun e w' => e = .returned (.bool true) ∧ Below w.heap.size w w' := by
  subst hf
  refine (h.2 w (full_sub w)).mono ?_
  rintro e w' ⟨v, h', rfl, ⟨rfl, hle⟩, hs⟩
  refine ⟨rfl, hs.os, hs.tape, hs.output, hs.size, fun b hb => ?_⟩
  have h1 : full w b = some w.heap[b] := by simp [full, hb]
  rw [hs.sub b _ (hle b _ h1)]
  simp [hb]
end Go.Cw
