/- Part 2 of the proof of TopTag: a small language for the program's functions, its soundness, and what the functions do. No conditions beyond the theorems' own. -/
import Derived.Test.YthhepmakjimhlabDoorCw1
set_option linter.unusedSimpArgs false
set_option linter.unusedVariables false
/- Slices of things as they lie in memory. -/
namespace Go.Cw
open Go

/-- these cells stand from an address on -/
def rowAt (h : Heap) (a : Addr) (cs : List Value) : Prop :=
  a.spot = none ∧ ∃ c t fz, h a.block = some (.cells c t fz) ∧ a.off + cs.length ≤ c.size ∧ ∀ i, i < cs.length → c[a.off + i]? = cs[i]?

/-- a slice of so many things, each so many cells -/
def Sl {α : Type} (enc : α → List Value) (h : Heap) (v : Value) (l : List α) : Prop :=
  ∃ a cap, v = .slice a l.length cap ∧ l.length ≤ cap ∧ (l = [] ∨ ∃ g, a = some g ∧ rowAt h g (l.flatMap enc))

theorem rowAt.le {h h' : Heap} (hl : Heap.le h h') {a : Addr} {cs : List Value} (hr : rowAt h a cs) : rowAt h' a cs := by
  obtain ⟨h1, c, t, fz, h2, h3, h4⟩ := hr
  exact ⟨h1, c, t, fz, hl _ _ h2, h3, h4⟩
theorem Sl.le {α : Type} {enc : α → List Value} {h h' : Heap} (hl : Heap.le h h') {v : Value} {l : List α} (hs : Sl enc h v l) : Sl enc h' v l := by
  obtain ⟨a, cap, h1, h2, h3⟩ := hs
  exact ⟨a, cap, h1, h2, h3.imp id fun ⟨g, h4, h5⟩ => ⟨g, h4, h5.le hl⟩⟩

theorem addr_add' (a : Addr) (hs : a.spot = none) (n : Nat) : a.add n = ⟨a.block, a.off + n, none⟩ := by
  obtain ⟨b, o, s⟩ := a
  simp only at hs
  subst hs
  unfold Addr.add
  split
  · rename_i h0; simp [h0]
  · rfl

theorem rowAt.cell {h : Heap} {a : Addr} {cs : List Value} (hr : rowAt h a cs) {i : Nat} (hi : i < cs.length) : h.cell (a.add i) = some cs[i] := by
  obtain ⟨h1, c, t, fz, h2, h3, h4⟩ := hr
  rw [addr_add' a h1]
  simp [Heap.cell, Heap.cells, h2, h4 i hi, hi]

theorem rowAt.row {h : Heap} {a : Addr} {cs : List Value} (hr : rowAt h a cs) {i n : Nat} (hi : i + n ≤ cs.length) : h.row (a.add i) n = some ((cs.drop i).take n).toArray := by
  obtain ⟨h1, c, t, fz, h2, h3, h4⟩ := hr
  rw [addr_add' a h1]
  have hle : a.off + i + n ≤ c.size := by omega
  by_cases hn0 : n = 0
  · subst hn0; simp [Heap.row]
  simp only [Heap.row, hn0, Heap.cells, h2, Option.isSome_none, Bool.false_eq_true, if_false, Option.bind_some, hle, if_true, Option.some.injEq]
  apply Array.ext
  · simp; omega
  · intro j h5 h6
    have hj : j < n := by simp at h5; omega
    have h7 := h4 (i + j) (by omega)
    have h8 : a.off + i + j < c.size := by omega
    have h9 : i + j < cs.length := by omega
    rw [show a.off + (i + j) = a.off + i + j by omega, Array.getElem?_eq_getElem h8, List.getElem?_eq_getElem h9] at h7
    simp only [Array.getElem_extract, List.getElem_toArray, List.getElem_take, List.getElem_drop]
    exact Option.some.inj h7

theorem flat_len {α : Type} {enc : α → List Value} {sz : Nat} (he : ∀ x, (enc x).length = sz) (l : List α) : (l.flatMap enc).length = l.length * sz := by
  induction l with
  | nil => simp
  | cons x l ih => simp [ih, he, Nat.add_mul]; omega

theorem flat_drop {α : Type} {enc : α → List Value} {sz : Nat} (he : ∀ x, (enc x).length = sz) : ∀ (l : List α) (i : Nat) (hi : i < l.length), ((l.flatMap enc).drop (i * sz)).take sz = enc l[i] := by
  intro l
  induction l with
  | nil => intro i hi; cases hi
  | cons x l ih =>
    intro i hi
    cases i with
    | zero => simp only [List.flatMap_cons, Nat.zero_mul, List.drop_zero, List.getElem_cons_zero]; rw [← he x, List.take_left']; rfl
    | succ i =>
      have h1 : (i + 1) * sz = (enc x).length + i * sz := by rw [he x, Nat.add_mul]; omega
      simp only [List.flatMap_cons, List.getElem_cons_succ]
      rw [h1, ← List.drop_drop, List.drop_left']
      · exact ih i (by simpa using hi)
      · rfl

theorem flat_get {α : Type} {enc : α → List Value} {sz : Nat} (he : ∀ x, (enc x).length = sz) (l : List α) (i j : Nat) (hi : i < l.length) (hj : j < sz) :
    (l.flatMap enc)[i * sz + j]? = (enc l[i])[j]? := by
  rw [← flat_drop he l i hi]
  simp [hj]

/-- an element's cells, as one value -/
theorem Sl.elem {α : Type} {enc : α → List Value} {sz : Nat} (he : ∀ x, (enc x).length = sz) {h : Heap} {g : Addr} {l : List α} (hr : rowAt h g (l.flatMap enc)) {i : Nat} (hi : i < l.length) :
    h.row (g.add (i * sz)) sz = some (enc l[i]).toArray := by
  have hlen := flat_len he l
  have : (i + 1) * sz ≤ l.length * sz := Nat.mul_le_mul_right _ hi
  have h2 : (i + 1) * sz = i * sz + sz := by rw [Nat.add_mul]; omega
  rw [hr.row (i := i * sz) (n := sz) (by omega), flat_drop he l i hi]

theorem Sl.field {α : Type} {enc : α → List Value} {sz : Nat} (he : ∀ x, (enc x).length = sz) {h : Heap} {g : Addr} {l : List α} (hr : rowAt h g (l.flatMap enc)) {i j : Nat} (hi : i < l.length) (hj : j < sz) :
    h.cell ((g.add (i * sz)).add j) = some ((enc l[i])[j]'(by rw [he]; exact hj)) := by
  have hlen := flat_len he l
  have h1 : (i + 1) * sz ≤ l.length * sz := Nat.mul_le_mul_right _ hi
  have h2 : (i + 1) * sz = i * sz + sz := by rw [Nat.add_mul]; omega
  have hlt : i * sz + j < (l.flatMap enc).length := by omega
  have e : (g.add (i * sz)).add j = g.add (i * sz + j) := by
    rw [addr_add' g hr.1, addr_add' _ rfl, addr_add' g hr.1]; simp [Nat.add_assoc]
  rw [e, hr.cell hlt]
  have := flat_get he l i j hi hj
  rw [List.getElem?_eq_getElem hlt, List.getElem?_eq_getElem (by rw [he]; exact hj)] at this
  exact this
end Go.Cw
/- Slices of a function's own: they may be appended to; all else that is known stays. -/
namespace Go.Cw
open Go

/-- a slice of one's own, beside what is known (h0) -/
def OwnS {α : Type} (enc : α → List Value) (sz : Nat) (h0 h : Heap) (v : Value) (l : List α) : Prop :=
  Heap.le h0 h ∧ ∃ a cap, v = .slice a l.length cap ∧ l.length ≤ cap ∧ cap ≤ maxLen ∧
    ((a = none ∧ l = [] ∧ cap = 0) ∨ ∃ b c t, a = some ⟨b, 0, none⟩ ∧ h0 b = none ∧ h b = some (.cells c t (0, 0)) ∧ c.size = cap * sz ∧ ∀ i, i < (l.flatMap enc).length → c[i]? = (l.flatMap enc)[i]?)

theorem Heap.le.refl (h : Heap) : Heap.le h h := fun _ _ h => h
theorem Heap.le.trans {a b c : Heap} (h1 : Heap.le a b) (h2 : Heap.le b c) : Heap.le a c := fun x o h => h2 x o (h1 x o h)
theorem Heap.le.new {h0 h : Heap} (hl : Heap.le h0 h) {b : Nat} (hb : h b = none) (o : Obj) : Heap.le h0 (h.set b o) := by
  intro x ob hx
  have := hl x ob hx
  simp only [Heap.set]
  split
  · rename_i e; subst e; rw [hb] at this; cases this
  · exact this
theorem Heap.le.over {h0 h : Heap} (hl : Heap.le h0 h) {b : Nat} (hb : h0 b = none) (o : Obj) : Heap.le h0 (h.set b o) := by
  intro x ob hx
  have := hl x ob hx
  simp only [Heap.set]
  split
  · rename_i e; subst e; rw [hb] at hx; cases hx
  · exact this

theorem OwnS.nil {α : Type} {enc : α → List Value} {sz : Nat} {h0 h : Heap} (hl : Heap.le h0 h) : OwnS enc sz h0 h (.slice none 0 0) ([] : List α) :=
  ⟨hl, none, 0, rfl, by simp, by simp [maxLen], .inl ⟨rfl, rfl, rfl⟩⟩

theorem OwnS.sl {α : Type} {enc : α → List Value} {sz : Nat} (he : ∀ x, (enc x).length = sz) {h0 h : Heap} {v : Value} {l : List α} (ho : OwnS enc sz h0 h v l) : Sl enc h v l := by
  obtain ⟨_, a, cap, h1, h2, _, h3⟩ := ho
  refine ⟨a, cap, h1, h2, ?_⟩
  rcases h3 with ⟨_, h4, _⟩ | ⟨b, c, t, h4, _, h5, h6, h7⟩
  · exact .inl h4
  · refine .inr ⟨_, h4, rfl, c, t, _, h5, ?_, ?_⟩
    · rw [flat_len he, h6]
      have := Nat.mul_le_mul_right sz h2
      simpa using this
    · intro i hi
      simpa using h7 i hi

theorem putL_get (c : Array Value) : ∀ (l : List Value) (off i : Nat), off + l.length ≤ c.size → (putL c off l).size = c.size ∧ (putL c off l)[i]? = if off ≤ i ∧ i < off + l.length then l[i - off]? else c[i]? := by
  intro l
  induction l generalizing c with
  | nil => intro off i _; simp [putL]; omega
  | cons v l ih =>
    intro off i hle
    simp only [List.length_cons] at hle
    obtain ⟨h1, h2⟩ := ih (c.setIfInBounds off v) (off + 1) i (by simp; omega)
    refine ⟨by simpa [putL] using h1, ?_⟩
    simp only [putL, h2, List.length_cons]
    by_cases e : i = off
    · subst e
      have hlt : i < c.size := by omega
      have : ¬ (i + 1 ≤ i ∧ i < i + 1 + l.length) := by omega
      rw [if_neg this, if_pos (by omega)]
      simp [hlt]
    · by_cases hh : off + 1 ≤ i ∧ i < off + 1 + l.length
      · rw [if_pos hh, if_pos (by omega)]
        have : i - off = (i - (off + 1)) + 1 := by omega
        rw [this]; simp
      · rw [if_neg hh, if_neg (by omega)]
        simp [Array.getElem?_setIfInBounds, Ne.symm e]

/-- APPEND TO A SLICE OF ONE'S OWN. -/
theorem app_own {N : Num} {Γ : Ctx} {α : Type} {enc : α → List Value} {sz bytes t : Nat} (he : ∀ x, (enc x).length = sz) {h0 h : Heap} {v x : Value} {l l' : List α} (hone : ∀ x ∈ l', (enc x).all one = true)
    (ho : OwnS enc sz h0 h v l) (hx : newCells h sz x = some (l'.length, (l'.flatMap enc).toArray)) (hlen : (l.length + l'.length) * (bytes + 1) ≤ 1073741824) {K : Value → Heap → Prop}
    (hK : ∀ v' h', OwnS enc sz h0 h' v' (l ++ l') → K v' h') : efW N Γ (.app t sz bytes) [v, x] h K := by
  obtain ⟨hl, a, cap, rfl, hcap, hmax, hc⟩ := ho
  have hb : (l.length + l'.length) * bytes ≤ 1073741824 := Nat.le_trans (Nat.mul_le_mul_left _ (Nat.le_succ _)) hlen
  have hn : l.length + l'.length ≤ 1073741824 := by
    have : (l.length + l'.length) * 1 ≤ (l.length + l'.length) * (bytes + 1) := Nat.mul_le_mul_left _ (by omega)
    omega
  have hall : (l'.flatMap enc).all one = true := by
    rw [List.all_flatMap, List.all_eq_true]; intro y hy; exact hone y hy
  simp only [efW]
  refine ⟨l'.length, _, hx, ?_⟩
  have fl := flat_len he l
  have fl' := flat_len he l'
  split
  · rename_i hfit
    rcases hc with ⟨rfl, rfl, rfl⟩ | ⟨b, c, ty, rfl, hb0, hbh, hsz, hcs⟩
    · have : l' = [] := by cases l' <;> simp at hfit ⊢
      subst this
      exact hK _ _ ⟨hl, none, 0, by simp, by simp, by simp [maxLen], .inl ⟨rfl, rfl, rfl⟩⟩
    · simp only [List.toList_toArray]
      have hfit' : (l.length + l'.length) * sz ≤ cap * sz := Nat.mul_le_mul_right sz hfit
      rw [Nat.add_mul] at hfit'
      have hput : ∃ c', putRow h ((⟨b, 0, none⟩ : Addr).add (l.length * sz)) (l'.flatMap enc) = some (h.set b (.cells c' ty (0, 0))) ∧ c'.size = c.size ∧
          ∀ i, i < ((l ++ l').flatMap enc).length → c'[i]? = ((l ++ l').flatMap enc)[i]? := by
        rw [addr_add' _ rfl]
        refine ⟨putL c (l.length * sz) (l'.flatMap enc), ?_, ?_, ?_⟩
        · cases hf : l'.flatMap enc with
          | nil =>
            simp only [putRow, putL, Option.some.injEq]
            funext y
            simp only [Heap.set]
            split
            · rename_i e; subst e; exact hbh
            · rfl
          | cons y ys =>
            have h1 : 0 + l.length * sz + (y :: ys).length ≤ c.size := by rw [← hf, fl', hsz]; omega
            have h2 : (y :: ys).all one = true := by rw [← hf]; exact hall
            simp only [putRow, Option.isSome_none, Bool.false_eq_true, if_false, hbh]
            rw [if_pos ⟨h1, h2⟩]
            simp
        · exact (putL_get c _ _ 0 (by rw [fl', hsz]; omega)).1
        · intro i hi
          have := (putL_get c (l'.flatMap enc) (l.length * sz) i (by rw [fl', hsz]; omega)).2
          rw [this]
          simp only [List.flatMap_append, List.length_append, fl, fl'] at hi ⊢
          by_cases hh : i < l.length * sz
          · rw [if_neg (by omega), hcs i (by rw [fl]; exact hh), List.getElem?_append_left (by rw [fl]; exact hh)]
          · rw [if_pos (by omega), List.getElem?_append_right (by rw [fl]; omega), fl]
      obtain ⟨c', h1, h2, h3⟩ := hput
      refine ⟨_, h1, hK _ _ ⟨hl.over hb0 _, some ⟨b, 0, none⟩, cap, by simp, by simpa using hfit, hmax, .inr ⟨b, c', ty, rfl, hb0, by simp [Heap.set], by rw [h2, hsz], h3⟩⟩⟩
  · rename_i hnofit
    refine ⟨by simp [maxLen]; omega, by omega, ?_⟩
    have holds : ∃ olds : Array Value, newCells h sz (.slice a l.length cap) = some (l.length, olds) ∧ olds.toList = l.flatMap enc := by
      rcases hc with ⟨rfl, rfl, rfl⟩ | ⟨b, c, ty, rfl, hb0, hbh, hsz, hcs⟩
      · exact ⟨#[], by simp [newCells], by simp⟩
      · by_cases hz : l.length * sz = 0
        · refine ⟨#[], by simp [newCells, hz], ?_⟩
          have : (l.flatMap enc).length = 0 := by rw [fl]; exact hz
          rw [List.eq_nil_of_length_eq_zero this]
        · have hr : rowAt h ⟨b, 0, none⟩ (l.flatMap enc) := by
            refine ⟨rfl, c, ty, _, hbh, ?_, fun i hi => by simpa using hcs i hi⟩
            rw [fl, hsz]; have := Nat.mul_le_mul_right sz hcap; simpa using this
          have := hr.row (i := 0) (n := l.length * sz) (by rw [fl]; omega)
          refine ⟨_, by simp only [newCells, hz, if_false]; rw [show (⟨b, 0, none⟩ : Addr) = (⟨b, 0, none⟩ : Addr).add 0 by rfl, this]; rfl, ?_⟩
          simp only [List.drop_zero, List.toList_toArray]
          rw [List.take_of_length_le (by rw [fl]; exact Nat.le_refl _)]
    obtain ⟨olds, h1, h2⟩ := holds
    refine ⟨_, olds, h1, ?_⟩
    intro b cap' tail hbn hc1 hc2 ht
    refine hK _ _ ⟨hl.new hbn _, some ⟨b, 0, none⟩, cap', by simp, by simpa using hc1, hc2, .inr ⟨b, olds ++ (l'.flatMap enc).toArray ++ tail, N.tid t, rfl, ?_, by simp [Heap.set], ?_, ?_⟩⟩
    · cases hh : h0 b with
      | none => rfl
      | some o => rw [hl b o hh] at hbn; cases hbn
    · have e1 : olds.size = l.length * sz := by rw [← Array.length_toList, h2, fl]
      have : (l.length + l'.length) * sz ≤ cap' * sz := Nat.mul_le_mul_right sz hc1
      simp only [Array.size_append, List.size_toArray, e1, fl', ht, Nat.sub_mul]
      rw [Nat.add_mul] at this ⊢
      omega
    · intro i hi
      have e : (olds ++ (l'.flatMap enc).toArray ++ tail)[i]? = ((l ++ l').flatMap enc ++ tail.toList)[i]? := by
        rw [← Array.getElem?_toList]
        simp [h2]
      rw [e, List.getElem?_append_left hi]
end Go.Cw
/- The rules at which a proof chooses. -/
namespace Go.Cw
open Go

section
variable {N : Num} {Γ : Ctx} {Q : SE → Env → Heap → Prop} {env : Env} {h : Heap} {K : Env → Heap → Prop} {a b s : St} {i : Nat}

instance [GoodC Γ] [hq : MonoQ Q] : MonoQ (seqK N Γ b Q) where
  up := by
    intro e env env' h hl hx
    cases e with
    | normal => exact SW_mono GoodC.imp b (fun hl hx => MonoQ.up hl hx) hl hx
    | exit i => exact hq.up (e := .exit i) hl hx
    | ret => exact hq.up (e := .ret) hl hx
instance [hq : MonoQ Q] : MonoQ (blkK i Q) where
  up := by
    intro e env env' h hl hx
    cases e with
    | normal => exact hq.up (e := .normal) hl hx
    | exit j =>
      simp only [blkK] at hx ⊢
      split at hx
      · rename_i hj; simp only [hj, if_true]; exact hq.up hl hx
      · rename_i hj; simp only [hj, if_false]; exact hq.up hl hx
    | ret => exact hq.up (e := .ret) hl hx
instance {σ : Type} {E : σ → Env} {I : σ → Heap → Prop} {m : σ → Nat} {n : Nat} [hq : MonoQ Q] : MonoQ (loopK E I m n Q) where
  up := by
    intro e env env' h hl hx
    cases e with
    | normal => obtain ⟨s, h1, h2, h3⟩ := hx; exact ⟨s, h1, ele_trans _ _ _ h2 hl, h3⟩
    | exit i => exact hq.up (e := .exit i) hl hx
    | ret => exact hq.up (e := .ret) hl hx
instance {R : Env → Heap → Prop} [hq : MonoQ Q] : MonoQ (meetK R Q) where
  up := by
    intro e env env' h hl hx
    cases e with
    | normal => obtain ⟨s, h2, h3⟩ := hx; exact ⟨s, ele_trans _ _ _ h2 hl, h3⟩
    | exit i => exact hq.up (e := .exit i) hl hx
    | ret => exact hq.up (e := .ret) hl hx
instance {res : List Ex} {K : Value → Heap → Prop} : MonoQ (finK N res K) where
  up := by
    intro e env env' h hl hx
    cases e with
    | normal => obtain ⟨vs, h1, h2⟩ := hx; exact ⟨vs, evVals_mono hl _ h1, h2⟩
    | exit i => exact hx
    | ret => obtain ⟨vs, h1, h2⟩ := hx; exact ⟨vs, evVals_mono hl _ h1, h2⟩

theorem i_fun {F : SFun} {args : List Value} {K : Value → Heap → Prop} (hn : args.length = F.np) (hx : SW N Γ F.body (finK N F.res K) (env0 F.nv args) h) : SF N Γ F args h K := ⟨hn, hx⟩

theorem i_cond {p : Prop} [Decidable p] (ht : p → SW N Γ a Q env h) (hf : ¬p → SW N Γ b Q env h) : condW N Γ (some (.v (.bool (decide p)))) a b Q env h := by
  by_cases h : p
  · simp only [h, decide_true]; exact ht h
  · simp only [h, decide_false]; exact hf h
theorem i_condb {t : Bool} (ht : t = true → SW N Γ a Q env h) (hf : t = false → SW N Γ b Q env h) : condW N Γ (some (.v (.bool t))) a b Q env h := by
  cases t
  · exact hf rfl
  · exact ht rfl
theorem i_cond_t {p : Prop} [Decidable p] (hp : p) (ht : SW N Γ a Q env h) : condW N Γ (some (.v (.bool (decide p)))) a b Q env h := by simp only [hp, decide_true]; exact ht
theorem i_cond_f {p : Prop} [Decidable p] (hp : ¬ p) (ht : SW N Γ b Q env h) : condW N Γ (some (.v (.bool (decide p)))) a b Q env h := by simp only [hp, decide_false]; exact ht

theorem i_loop {σ : Type} [GoodC Γ] [MonoQ Q] (E : σ → Env) (I : σ → Heap → Prop) (m : σ → Nat) (s0 : σ) (he : ele (E s0) env) (h0 : I s0 h)
    (hs : ∀ s h, I s h → SW N Γ b (loopK E I m (m s) Q) (E s) h) : SW N Γ (.loop b) Q env h := by
  refine ⟨fun n env h => ∃ s, m s = n ∧ ele (E s) env ∧ I s h, m s0, ⟨s0, rfl, he, h0⟩, ?_⟩
  rintro n env h ⟨s, rfl, he, hI⟩
  refine SW_mono GoodC.imp b (fun {x e e' h} hl hx => ?_) he (hs s h hI)
  cases x with
  | normal => obtain ⟨s', h1, h2, h3⟩ := hx; exact ⟨m s', h1, s', rfl, ele_trans _ _ _ h2 hl, h3⟩
  | exit i => exact MonoQ.up (Q := Q) (e := .exit i) hl hx
  | ret => exact MonoQ.up (Q := Q) (e := .ret) hl hx
theorem k_loop {σ : Type} {E : σ → Env} {I : σ → Heap → Prop} {m : σ → Nat} {n : Nat} (s : σ) (hm : m s < n) (he : ele (E s) env) (hI : I s h) : loopK E I m n Q .normal env h := ⟨s, hm, he, hI⟩

/-- ways meet -/
theorem i_meet [GoodC Γ] [MonoQ Q] (R : Env → Heap → Prop) (hb : ∀ env h, R env h → SW N Γ b Q env h) (hx : SW N Γ s (meetK R Q) env h) : SW N Γ s (seqK N Γ b Q) env h :=
  SW_mono GoodC.imp s (fun {x e e' h} hl hx => by
    cases x with
    | normal => obtain ⟨e0, h1, h2⟩ := hx; exact SW_mono GoodC.imp b (fun hl hx => MonoQ.up hl hx) (ele_trans _ _ _ h1 hl) (hb e0 h h2)
    | exit i => exact MonoQ.up (Q := Q) (e := .exit i) hl hx
    | ret => exact MonoQ.up (Q := Q) (e := .ret) hl hx) (ele_refl env) hx
theorem i_meet_blk [GoodC Γ] [MonoQ Q] (R : Env → Heap → Prop) (hb : ∀ env h, R env h → SW N Γ b Q env h) (hx : SW N Γ s (blkK i (meetK R Q)) env h) : SW N Γ s (blkK i (seqK N Γ b Q)) env h := i_meet (s := .block i s) R hb hx
theorem i_meet_cond [GoodC Γ] [MonoQ Q] (R : Env → Heap → Prop) {o : Option UV} {s' : St} (hb : ∀ env h, R env h → SW N Γ b Q env h) (hx : condW N Γ o s s' (meetK R Q) env h) :
    condW N Γ o s s' (seqK N Γ b Q) env h := by
  unfold condW at hx ⊢
  split at hx
  · exact i_meet R hb hx
  · exact i_meet R hb hx
  · exact hx.elim
theorem i_meet_cond_blk [GoodC Γ] [MonoQ Q] (R : Env → Heap → Prop) {o : Option UV} {s' : St} (hb : ∀ env h, R env h → SW N Γ b Q env h) (hx : condW N Γ o s s' (blkK i (meetK R Q)) env h) :
    condW N Γ o s s' (blkK i (seqK N Γ b Q)) env h := by
  unfold condW at hx ⊢
  split at hx
  · exact i_meet_blk R hb hx
  · exact i_meet_blk R hb hx
  · exact hx.elim
theorem i_meet_alt [GoodC Γ] [MonoQ Q] (R : Env → Heap → Prop) {d : DS} {ws : List Heap} (hb : ∀ env h, R env h → SW N Γ b Q env h) (hx : altW N Γ d ws env h (normK (meetK R Q))) : altW N Γ d ws env h (normK (seqK N Γ b Q)) :=
  dsW_mono GoodC.imp d (fun {e e' h} hl hx => by
    obtain ⟨e0, h1, h2⟩ := hx
    exact SW_mono GoodC.imp b (fun hl hx => MonoQ.up hl hx) (ele_trans _ _ _ h1 hl) (hb e0 h h2)) (ele_refl env) hx
theorem k_meet {R : Env → Heap → Prop} (env0 : Env) (he : ele env0 env) (hR : R env0 h) : meetK R Q .normal env h := ⟨env0, he, hR⟩

theorem i_alt {fl fl' : Bool} {wx wx' : List Let} {s s' : Stg} {r r' : DS} {ws : List Heap} (ha : stgW N Γ s env h (dsK N fl wx ws env h (dsC N Γ r K))) (hb : stgW N Γ s' env h (dsK N fl' wx' ws env h (dsC N Γ r' K))) : altW N Γ (.alt fl wx s r fl' wx' s' r') ws env h K := ⟨ha, hb⟩
theorem i_lew {ws : List Heap} {A : Prop} (ha : ∀ x ∈ ws, Heap.le x h) (hb : A) : leW ws h A := ⟨ha, hb⟩
theorem i_le {l : Let} {ls : List Let} {ws : List Heap} {r : DS} {e0 : Env} {h' : Heap} (ha : ∀ z ∈ h :: ws, Heap.le z h') (hb : dsW N Γ r (h :: ws) env h' K) : dsK N true (l :: ls) ws e0 h (dsC N Γ r K) env h' := ⟨h, .inl rfl, fun _ => ha, hb⟩
/-- what was read lies in less than is known -/
theorem i_lex (x : Heap) {l : Let} {ls : List Let} {ws : List Heap} {r : DS} {e0 : Env} {h' : Heap} (hx : Heap.le x h) (hc : ∀ l' ∈ l :: ls, covX N e0 x l') (ha : ∀ z ∈ x :: ws, Heap.le z h') (hb : dsW N Γ r (x :: ws) env h' K) : dsK N true (l :: ls) ws e0 h (dsC N Γ r K) env h' :=
  ⟨x, .inr ⟨hx, hc⟩, fun _ => ha, hb⟩
theorem le_one {x h : Heap} (h1 : Heap.le x h) : ∀ y ∈ [x], Heap.le y h := by intro y hy; simp at hy; subst hy; exact h1
theorem le_two {x y h : Heap} (h1 : Heap.le x h) (h2 : Heap.le y h) : ∀ z ∈ [x, y], Heap.le z h := by
  intro z hz; simp at hz; rcases hz with rfl | rfl <;> assumption
theorem le_cons {x : Heap} {l : List Heap} (h1 : Heap.le x h) (h2 : ∀ z ∈ l, Heap.le z h) : ∀ z ∈ x :: l, Heap.le z h := by
  intro z hz; simp at hz; rcases hz with rfl | hz
  · exact h1
  · exact h2 z hz
theorem le_nil : ∀ z ∈ ([] : List Heap), Heap.le z h := by intro z hz; cases hz

theorem i_call {S : Spec} {k : Nat} {us : List Value} {K : Value → Heap → Prop} (hs : Sat S (Γ k)) (hx : S us h K) : efW N Γ (.call k) us h K := hs _ _ _ hx
theorem i_new {t : Nat} {x : Value} {K : Value → Heap → Prop} (hx : ∀ b, h b = none → K (.pointer (some ⟨b, 0, none⟩)) (h.set b (.cells x.cells (N.tid t) (0, 0)))) : efW N Γ (.new t) [x] h K := hx
theorem i_bsl {t n : Nat} {c : Array Value} {K : Value → Heap → Prop} (hx : ∀ b, h b = none → K (.slice (some ⟨b, 0, none⟩) n n) (h.set b (.cells c (N.tid t) (0, 0)))) : efW N Γ (.bsl t n) [.agg c] h K := hx
end

/-- told -/
theorem Pe : (ele [] [] = True) ∧ (∀ e y e', ele (none :: e) (y :: e') = ele e e') ∧ (∀ x e y e', ele (some x :: e) (some y :: e') = (x = y ∧ ele e e')) := ⟨rfl, fun _ _ _ => rfl, fun _ _ _ _ => rfl⟩
end Go.Cw
/- Bytes: as a slice, as a string. -/
namespace Go.Cw
open Go

def encB (b : UInt8) : List Value := [.int .u8 b.toNat]
theorem encB_len (b : UInt8) : (encB b).length = 1 := rfl
theorem encB_one (b : UInt8) : (encB b).all one = true := rfl
theorem flatB (l : List UInt8) : l.flatMap encB = l.map fun b => .int .u8 b.toNat := by
  induction l with
  | nil => rfl
  | cons b l ih => simp [encB, ih]
theorem bytesOfCells_flat (l : List UInt8) : bytesOfCells (l.flatMap encB) = some l := by
  induction l with
  | nil => rfl
  | cons b l ih =>
    show (bytesOfCells (l.flatMap encB)).map (UInt8.ofNat (b.toNat : Int).toNat :: ·) = _
    rw [ih]; simp

theorem addr_zero {g : Addr} : g.add 0 = g := rfl

theorem Sl.row {α : Type} {enc : α → List Value} {sz : Nat} (he : ∀ x, (enc x).length = sz) {h : Heap} {a : Addr} {l : List α} (hr : rowAt h a (l.flatMap enc)) : h.row a (l.length * sz) = some (l.flatMap enc).toArray := by
  have := hr.row (i := 0) (n := l.length * sz) (by rw [flat_len he]; omega)
  rw [addr_zero] at this
  rw [this, List.drop_zero, List.take_of_length_le (by rw [flat_len he]; exact Nat.le_refl _)]

theorem b2s_sl {N : Num} {env : Env} {h : Heap} {v : Value} {l : List UInt8} (hs : Sl encB h v l) : o1V N env h .b2s (.v v) = some (.v (.string ⟨l.toArray⟩)) := by
  obtain ⟨a, cap, rfl, hcap, h1⟩ := hs
  rcases h1 with rfl | ⟨g, rfl, hr⟩
  · cases a with
    | none => rfl
    | some g =>
      simp [o1V, Heap.row, bytesOfCells]
  · have := Sl.row encB_len hr
    simp only [o1V]
    rw [Nat.mul_one] at this
    rw [this]
    simp [bytesOfCells_flat]

theorem sl_row {h : Heap} {a : Addr} {n cap : Nat} {l : List UInt8} (hs : Sl encB h (.slice (some a) n cap) l) : h.row a n = some (l.flatMap encB).toArray := by
  obtain ⟨a', cap', e, hcap, h1⟩ := hs
  cases e
  rcases h1 with rfl | ⟨g, e, hr⟩
  · simp [Heap.row]
  · cases e
    have := Sl.row encB_len hr
    rwa [Nat.mul_one] at this

theorem newCells_str {h : Heap} (s : ByteArray) : newCells h 1 (.string s) = some (s.data.toList.length, (s.data.toList.flatMap encB).toArray) := by
  have h1 : s.data.map (fun b => Value.int IntKind.u8 (b.toNat : Int)) = (s.data.toList.flatMap encB).toArray := by
    rw [flatB]; apply Array.toList_inj.1; simp
  have h2 : s.size = s.data.toList.length := by show s.data.size = _; simp
  show some (s.size, s.data.map (fun b => Value.int IntKind.u8 (b.toNat : Int))) = _
  rw [h1, h2]

theorem newCells_sl {α : Type} {enc : α → List Value} {sz : Nat} (he : ∀ x, (enc x).length = sz) {h : Heap} {v : Value} {l : List α} (hs : Sl enc h v l) : newCells h sz v = some (l.length, (l.flatMap enc).toArray) := by
  obtain ⟨a, cap, rfl, hcap, h1⟩ := hs
  have fl := flat_len he l
  cases a with
  | none =>
    have : l = [] := by rcases h1 with h1 | ⟨g, h1, _⟩; exact h1; cases h1
    subst this; simp [newCells]
  | some g =>
    by_cases hz : l.length * sz = 0
    · have : l.flatMap enc = [] := List.eq_nil_of_length_eq_zero (by rw [fl]; exact hz)
      simp [newCells, hz, this]
    · rcases h1 with rfl | ⟨g', e, hr⟩
      · simp at hz
      · cases e
        simp only [newCells, hz, if_false, Sl.row he hr, Option.map_some]
end Go.Cw
namespace Go.Cw
open Go

/-- the address of a slice's cell -/
def elt (v : Value) (n : Nat) : Addr := match v with
  | .slice (some a) _ _ => a.add n
  | _ => ⟨0, 0, none⟩

theorem elt_add {α : Type} {enc : α → List Value} {h : Heap} {v : Value} {l : List α} (hs : Sl enc h v l) (hl : l ≠ []) (i j : Nat) : (elt v i).add j = elt v (i + j) := by
  obtain ⟨a, cap, rfl, hcap, hr⟩ := hs
  obtain ⟨g, rfl, hr'⟩ := hr.resolve_left hl
  simp only [elt]
  rw [addr_add' g hr'.1, addr_add' _ rfl, addr_add' g hr'.1]; simp [Nat.add_assoc]

/-- what is read of a slice -/
theorem Sl.rules {α : Type} {enc : α → List Value} (sz : Nat) (he : ∀ x, (enc x).length = sz) (d : α) {h : Heap} {v : Value} {l : List α} (hs : Sl enc h v l) :
    (∀ N env, o1V N env h .llen (.v v) = some (.v (.int .i64 l.length))) ∧
    (∀ k (n : Int), 0 ≤ n → n < (l.length : Int) → o2V h (.iadr sz) (.v v) (.v (.int k n)) = some (.v (.pointer (some (elt v (n.toNat * sz)))))) ∧
    (∀ i, i < l.length → h.row (elt v (i * sz)) sz = some (enc (l.getD i d)).toArray) ∧
    (∀ i j, i < l.length → j < sz → h.cell ((elt v (i * sz)).add j) = (enc (l.getD i d))[j]?) ∧
    (∀ i, i < l.length → 0 < sz → h.cell (elt v (i * sz)) = (enc (l.getD i d))[0]?) ∧ one v = true ∧ v.cells = #[v] ∧
    (0 < l.length → h.row (elt v 0) sz = some (enc (l.getD 0 d)).toArray) ∧ (∀ j, 0 < l.length → j < sz → h.cell ((elt v 0).add j) = (enc (l.getD 0 d))[j]?) ∧ (0 < l.length → 0 < sz → h.cell (elt v 0) = (enc (l.getD 0 d))[0]?) := by
  obtain ⟨a, cap, rfl, hcap, hr⟩ := hs
  have hne : ∀ i, i < l.length → ∃ g, a = some g ∧ rowAt h g (l.flatMap enc) := by
    intro i hi
    exact hr.resolve_left (by intro e; rw [e] at hi; cases hi)
  have hg : ∀ i (hi : i < l.length), l.getD i d = l[i] := by intro i hi; simp [List.getD_eq_getElem?_getD, hi]
  have k3 : ∀ i, i < l.length → h.row (elt (.slice a l.length cap) (i * sz)) sz = some (enc (l.getD i d)).toArray := by
    intro i hi
    obtain ⟨g, rfl, hrow⟩ := hne i hi
    rw [hg i hi]
    exact Sl.elem he hrow hi
  have k4 : ∀ i j, i < l.length → j < sz → h.cell ((elt (.slice a l.length cap) (i * sz)).add j) = (enc (l.getD i d))[j]? := by
    intro i j hi hj
    obtain ⟨g, rfl, hrow⟩ := hne i hi
    rw [hg i hi, List.getElem?_eq_getElem (by rw [he]; exact hj)]
    exact Sl.field he hrow hi hj
  have k5 : ∀ i, i < l.length → 0 < sz → h.cell (elt (.slice a l.length cap) (i * sz)) = (enc (l.getD i d))[0]? := by
    intro i hi hj
    obtain ⟨g, rfl, hrow⟩ := hne i hi
    rw [hg i hi, List.getElem?_eq_getElem (by rw [he]; exact hj)]
    exact Sl.field he hrow hi hj
  refine ⟨fun _ _ => rfl, ?_, k3, k4, k5, rfl, rfl, fun hi => by simpa using k3 0 hi, fun j hi hj => by simpa using k4 0 j hi hj, fun hi hj => by simpa using k5 0 hi hj⟩
  intro k n h0 h1
  obtain ⟨g, rfl, _⟩ := hne n.toNat (by omega)
  have hb : inBounds n l.length = true := by simp [inBounds, h0, h1]
  simp only [o2V, hb, if_true, elt]

/-- of things of one cell -/
theorem Sl.rules1 {α : Type} {enc : α → List Value} (e1 : α → Value) (he : ∀ x, enc x = [e1 x]) (d : α) {h : Heap} {v : Value} {l : List α} (hs : Sl enc h v l) :
    (∀ N env, o1V N env h .llen (.v v) = some (.v (.int .i64 l.length))) ∧
    (∀ k (n : Int), 0 ≤ n → n < (l.length : Int) → o2V h (.iadr 1) (.v v) (.v (.int k n)) = some (.v (.pointer (some (elt v n.toNat))))) ∧
    (∀ i, i < l.length → h.cell (elt v i) = some (e1 (l.getD i d))) ∧ Cw.one v = true ∧ v.cells = #[v] := by
  obtain ⟨h1, h2, h3, h4, h5, h6, h7, _⟩ := hs.rules 1 (fun x => by rw [he]; rfl) d
  refine ⟨h1, fun k n a b => by have := h2 k n a b; simpa using this, fun i hi => ?_, h6, h7⟩
  have := h5 i hi (by omega)
  rw [Nat.mul_one, he] at this
  simpa using this
theorem Sl.one {α : Type} {enc : α → List Value} {h : Heap} {v : Value} {l : List α} (hs : Sl enc h v l) : Cw.one v = true ∧ v.cells = #[v] := by
  obtain ⟨a, cap, rfl, hcap, hr⟩ := hs; exact ⟨rfl, rfl⟩
theorem OwnS.one {α : Type} {enc : α → List Value} {sz : Nat} {h0 h : Heap} {v : Value} {l : List α} (hs : OwnS enc sz h0 h v l) : Cw.one v = true ∧ v.cells = #[v] := by
  obtain ⟨_, a, cap, rfl, hcap, hr⟩ := hs; exact ⟨rfl, rfl⟩
theorem take_succ_d {α : Type} (d : α) {l : List α} {i : Nat} (hi : i < l.length) : l.take (i + 1) = l.take i ++ [l.getD i d] := by
  rw [List.take_succ_eq_append_getElem hi]; simp [List.getD_eq_getElem?_getD, hi]
theorem getD_mem {α : Type} (d : α) {l : List α} {i : Nat} (hi : i < l.length) : l.getD i d ∈ l := by
  simp [List.getD_eq_getElem?_getD, hi]

def encI (n : Int) : List Value := [.int .i64 n]
/-- bytes of a slice, as a string -/
theorem Sl.b2s {h : Heap} {v : Value} {l : List UInt8} (hs : Sl encB h v l) (N : Num) (env : Env) : o1V N env h .b2s (.v v) = some (.v (.string (str l))) := b2s_sl hs
end Go.Cw
namespace Go.Cw
open Go

theorem OwnS.le {α : Type} {enc : α → List Value} {sz : Nat} {h0 h h' : Heap} {v : Value} {l : List α} (ho : OwnS enc sz h0 h v l) (hl : Heap.le h h') : OwnS enc sz h0 h' v l := by
  obtain ⟨h1, a, cap, h2, h3, h4, h5⟩ := ho
  refine ⟨h1.trans hl, a, cap, h2, h3, h4, h5.imp id ?_⟩
  rintro ⟨b, c, t, a1, a2, a3, a4⟩
  exact ⟨b, c, t, a1, a2, hl _ _ a3, a4⟩
/-- over less that must stay -/
theorem OwnS.base {α : Type} {enc : α → List Value} {sz : Nat} {h0 h1 h : Heap} {v : Value} {l : List α} (ho : OwnS enc sz h1 h v l) (hl : Heap.le h0 h1) : OwnS enc sz h0 h v l := by
  obtain ⟨a0, a, cap, h2, h3, h4, h5⟩ := ho
  refine ⟨hl.trans a0, a, cap, h2, h3, h4, h5.imp id ?_⟩
  rintro ⟨b, c, t, a1, a2, a3, a4⟩
  refine ⟨b, c, t, a1, ?_, a3, a4⟩
  cases hh : h0 b with
  | none => rfl
  | some o => rw [hl b o hh] at a2; cases a2

/-- a new slice of these things -/
theorem i_bslS {α : Type} (enc : α → List Value) (sz : Nat) (he : ∀ x, (enc x).length = sz) (l : List α) {N : Num} {Γ : Ctx} {h : Heap} {t n : Nat} {c : Array Value} {K : Value → Heap → Prop} (hc : c.toList = l.flatMap enc) (hn : n = l.length) (hm : l.length ≤ maxLen)
    (hx : ∀ v h', Heap.le h h' → OwnS enc sz h h' v l → K v h') : efW N Γ (.bsl t n) [.agg c] h K := by
  subst hn
  intro b hb
  refine hx _ _ ((Heap.le.refl h).new hb _) ⟨(Heap.le.refl h).new hb _, _, _, rfl, Nat.le_refl _, hm, .inr ⟨b, c, N.tid t, rfl, hb, by simp [Heap.set], ?_, ?_⟩⟩
  · rw [← Array.length_toList, hc, flat_len he]
  · intro i hi
    rw [← Array.getElem?_toList, hc]

/-- append to a slice of one's own -/
theorem i_app {α : Type} {enc : α → List Value} {sz : Nat} (he : ∀ x, (enc x).length = sz) (hone : ∀ x, (enc x).all one = true) {N : Num} {Γ : Ctx} {h0 h : Heap} {t bytes : Nat} {v x : Value} {l l' : List α}
    (ho : OwnS enc sz h0 h v l) (hx : Sl enc h x l') (hlen : (l.length + l'.length) * (bytes + 1) ≤ 1073741824) {K : Value → Heap → Prop}
    (hK : ∀ v' h', OwnS enc sz h0 h' v' (l ++ l') → K v' h') : efW N Γ (.app t sz bytes) [v, x] h K :=
  app_own he (fun x _ => hone x) ho (newCells_sl he hx) hlen hK
theorem i_app1 {α : Type} {enc : α → List Value} {sz : Nat} (he : ∀ x, (enc x).length = sz) {N : Num} {Γ : Ctx} {h0 h : Heap} {t bytes : Nat} {v x : Value} {l l' : List α} (hone : ∀ x ∈ l', (enc x).all one = true)
    (ho : OwnS enc sz h0 h v l) (hx : Sl enc h x l') (hlen : (l.length + l'.length) * (bytes + 1) ≤ 1073741824) {K : Value → Heap → Prop}
    (hK : ∀ v' h', OwnS enc sz h0 h' v' (l ++ l') → K v' h') : efW N Γ (.app t sz bytes) [v, x] h K :=
  app_own he hone ho (newCells_sl he hx) hlen hK
theorem i_appstr {N : Num} {Γ : Ctx} {h0 h : Heap} {t bytes : Nat} {v : Value} {l l' : List UInt8}
    (ho : OwnS encB 1 h0 h v l) (hlen : (l.length + l'.length) * (bytes + 1) ≤ 1073741824) {K : Value → Heap → Prop}
    (hK : ∀ v' h', OwnS encB 1 h0 h' v' (l ++ l') → K v' h') : efW N Γ (.app t 1 bytes) [v, .string (str l')] h K :=
  app_own encB_len (fun x _ => encB_one x) ho (by simpa [str_data] using newCells_str (str l')) hlen hK

theorem Sl.nil {α : Type} {enc : α → List Value} {h : Heap} {a : Option Addr} {c : Nat} : Sl enc h (.slice a 0 c) ([] : List α) := ⟨a, c, rfl, by simp, .inl rfl⟩

/-- an error by its number -/
def errV (N : Num) (k : Nat) : Value := if k = 0 then .nilIface else .iface (N.tid 111) (.int .i64 k)
theorem errV_zero (N : Num) : errV N 0 = .nilIface := rfl
theorem errV_succ (N : Num) (k : Nat) : errV N (k + 1) = .iface (N.tid 111) (.int .i64 (k + 1 : Nat)) := rfl
theorem errV_pos (N : Num) {k : Nat} (h : k ≠ 0) : errV N k = .iface (N.tid 111) (.int .i64 k) := by simp [errV, h]
theorem errV_eq (N : Num) : (∀ k h, o2V h (.eqv .iface true) (.v (errV N k)) (.v .nilIface) = some (.v (.bool (decide (k ≠ 0))))) ∧ (∀ k h, o2V h (.eqv .iface false) (.v (errV N k)) (.v .nilIface) = some (.v (.bool (decide (k = 0))))) := by
  constructor <;> (intro k h; unfold errV; split <;> simp [o2V, eqV, *])

theorem str_beq (a b : List UInt8) : (str a == str b) = decide (a = b) := by
  rw [ba_beq]
  simp only [str]
  rw [Bool.eq_iff_iff]
  simp
theorem cellsEq_int (k : IntKind) (ks : List Bk) (a b : Int) (xs ys : List Value) : cellsEq (.int :: ks) (.int k a :: xs) (.int k b :: ys) = if a = b then cellsEq ks xs ys else some false := by
  simp only [cellsEq, cellEq, if_true]
  by_cases e : a = b
  · subst e; simp
  · have : (a == b) = false := by simpa using e
    rw [this]; simp [e]
theorem cellsEq_str (ks : List Bk) (a b : List UInt8) (xs ys : List Value) : cellsEq (.str :: ks) (.string (str a) :: xs) (.string (str b) :: ys) = if a = b then cellsEq ks xs ys else some false := by
  simp only [cellsEq, cellEq, str_beq]
  by_cases e : a = b <;> simp [e]
theorem cellsEq_nil : cellsEq [] [] [] = some true := rfl
/-- a number as a byte -/
def b8 (n : Int) : UInt8 := UInt8.ofNat (n % 256).toNat
theorem b8_val (n : Int) : ((b8 n).toNat : Int) = n % 256 := by
  have h : (n % 256).toNat < 256 := by omega
  simp only [b8, UInt8.toNat_ofNat', Nat.mod_eq_of_lt h]
  omega
theorem w8' (n : Int) : IntKind.u8.wrap n = n % 256 := by simp [IntKind.wrap, IntKind.bits, IntKind.signed]
theorem conv8 (n : Int) : IntKind.u8.wrap n = ((b8 n).toNat : Int) := by rw [b8_val, w8']
theorem b8_u (b : UInt8) : b8 (b.toNat : Int) = b := by
  apply UInt8.toNat_inj.1
  have := b8_val (b.toNat : Int)
  have h2 : b.toNat < 256 := b.toNat_lt
  omega
end Go.Cw
namespace Go.Cw
open Go
/-- cratewatch/cratewatchlaw.LightEpochs -/
def F12 : SFun := ⟨1, 9, (.seq (.reg [⟨[⟨[], 1, (.con (.bool false))⟩], none⟩])
  (.seq (.seq (.reg [⟨[⟨[], 4, (.o2 (.bin .gtr) (.o1 .llen (.var 0)) (.con (.int .i64 25)))⟩], none⟩])
  (.cond (.var 4)
   (.seq (.reg [⟨[⟨[], 1, (.con (.bool false))⟩], none⟩])
   .ret)
   .skip))
  (.seq (.seq (.reg [⟨[⟨[], 2, (.con (.int .i64 0))⟩], none⟩])
  (.block 0 (.loop (.seq (.seq (.reg [⟨[⟨[], 5, (.o2 (.bin .lss) (.var 2) (.o1 .llen (.var 0)))⟩], none⟩])
    (.cond (.var 5)
     .skip
     (.exit 0)))
    (.seq (.block 1 (.seq (.seq (.reg [⟨[⟨[], 6, (.o2 (.bin .gtr) (.o1 .llen (.o1 .ld (.o2 (.iadr 1) (.var 0) (.var 2)))) (.con (.int .i64 25)))⟩], none⟩])
     (.cond (.var 6)
      (.seq (.reg [⟨[⟨[], 1, (.con (.bool false))⟩], none⟩])
      .ret)
      .skip))
     (.seq (.reg [⟨[⟨[], 3, (.con (.int .i64 0))⟩], none⟩])
     (.block 2 (.loop (.seq (.seq (.reg [⟨[⟨[], 7, (.o2 (.bin .lss) (.var 3) (.o1 .llen (.o1 .ld (.o2 (.iadr 1) (.var 0) (.var 2)))))⟩], none⟩])
       (.cond (.var 7)
        .skip
        (.exit 2)))
       (.seq (.block 3 (.seq (.reg [⟨[⟨[], 8, (.o2 (.bin .gtr) (.o1 .slen (.o1 .ld (.o1 (.fadr 3) (.o2 (.iadr 4) (.o1 .ld (.o2 (.iadr 1) (.var 0) (.var 2))) (.var 3))))) (.con (.int .i64 20)))⟩], none⟩])
        (.cond (.var 8)
         (.seq (.reg [⟨[⟨[], 1, (.con (.bool false))⟩], none⟩])
         .ret)
         .skip)))
       (.reg [⟨[⟨[], 3, (.o2 (.bin .add) (.var 3) (.con (.int .i64 1)))⟩], none⟩]))))))))
    (.reg [⟨[⟨[], 2, (.o2 (.bin .add) (.var 2) (.con (.int .i64 1)))⟩], none⟩]))))))
  (.seq (.reg [⟨[⟨[], 1, (.con (.bool true))⟩], none⟩])
  .ret)))), [(.var 1)]⟩
/-- (*cratewatch/cratewatchref.Track).Tags -/
def F14 : SFun := ⟨2, 15, (.seq (.reg [⟨[⟨[], 2, (.con (.slice none 0 0))⟩], none⟩])
  (.seq (.reg [⟨[⟨[], 3, (.con (.slice none 0 0))⟩], none⟩])
  (.seq (.seq (.reg [⟨[⟨[], 4, (.con (.int .i64 0))⟩], none⟩])
  (.block 0 (.loop (.seq (.seq (.reg [⟨[⟨[], 8, (.pick (.o2 (.bin .lss) (.var 4) (.o1 .llen (.o1 .ld (.o1 (.fadr 2) (.o1 .nilck (.var 0)))))) (.o2 (.bin .leq) (.var 4) (.var 1)) (.con (.bool false)))⟩], none⟩])
    (.cond (.var 8)
     .skip
     (.exit 0)))
    (.seq (.block 1 (.seq (.reg [⟨[⟨[], 5, (.con (.int .i64 0))⟩], none⟩])
     (.block 2 (.loop (.seq (.seq (.reg [⟨[⟨[], 9, (.o2 (.bin .lss) (.var 5) (.o1 .llen (.o1 .ld (.o2 (.iadr 1) (.o1 .ld (.o1 (.fadr 2) (.o1 .nilck (.var 0)))) (.var 4)))))⟩], none⟩])
       (.cond (.var 9)
        .skip
        (.exit 2)))
       (.seq (.block 3 (.seq (.reg [⟨[⟨[], 6, (.o1 .ld (.o1 (.fadr 3) (.o2 (.iadr 4) (.o1 .ld (.o2 (.iadr 1) (.o1 .ld (.o1 (.fadr 2) (.o1 .nilck (.var 0)))) (.var 4))) (.var 5))))⟩], none⟩])
        (.seq (.reg [⟨[⟨[], 7, (.con (.int .i64 0))⟩], none⟩])
        (.seq (.block 4 (.loop (.seq (.seq (.reg [⟨[⟨[], 10, (.pick (.o2 (.bin .lss) (.var 7) (.o1 .llen (.var 3))) (.o2 (.bin .lss) (.o1 .ld (.o2 (.iadr 1) (.var 3) (.var 7))) (.var 6)) (.con (.bool false)))⟩], none⟩])
          (.cond (.var 10)
           .skip
           (.exit 4)))
          (.block 5 (.reg [⟨[⟨[], 7, (.o2 (.bin .add) (.var 7) (.con (.int .i64 1)))⟩], none⟩])))))
        (.seq (.seq (.reg [⟨[⟨[], 11, (.pick (.o2 (.bin .lss) (.var 7) (.o1 .llen (.var 3))) (.o2 (.bin .eql) (.o1 .ld (.o2 (.iadr 1) (.var 3) (.var 7))) (.var 6)) (.con (.bool false)))⟩], none⟩])
        (.cond (.var 11)
         (.exit 3)
         .skip))
        (.seq (.reg [⟨[⟨[], 12, (.var 3)⟩], some (.ef [] (.bsl 9 1) [(.o2 (.bput 0 1) (.con (.agg #[(.string .empty)])) (.con (.string .empty)))] (some 13))⟩, ⟨[], some (.ef [] (.app 9 1 16) [(.var 12), (.var 13)] (some 14))⟩, ⟨[⟨[], 3, (.var 14)⟩], none⟩])
        (.seq (.dreg (.eff false [] ⟨[], some (.ef [] (.cpy 1) [(.o3 (.lsl 1) (.var 3) (.o2 (.bin .add) (.var 7) (.con (.int .i64 1))) (.o1 .llen (.var 3))), (.o3 (.lsl 1) (.var 3) (.var 7) (.o1 .llen (.var 3)))] none)⟩ (.done ⟨[], none⟩)))
        (.reg [⟨[], some (.ef [] (.st 1) [(.o2 (.iadr 1) (.var 3) (.var 7)), (.var 6)] none)⟩]))))))))
       (.reg [⟨[⟨[], 5, (.o2 (.bin .add) (.var 5) (.con (.int .i64 1)))⟩], none⟩])))))))
    (.reg [⟨[⟨[], 4, (.o2 (.bin .add) (.var 4) (.con (.int .i64 1)))⟩], none⟩]))))))
  (.seq (.reg [⟨[⟨[], 2, (.var 3)⟩], none⟩])
  .ret)))), [(.var 2)]⟩
/-- cratewatch/cratewatchref.FrameFault -/
def F17 : SFun := ⟨1, 12, (.seq (.reg [⟨[], some (.pnew 1 (.var 0))⟩, ⟨[⟨[], 2, (.con (.int .i64 0))⟩], none⟩])
  (.seq (.seq (.reg [⟨[⟨[], 5, (.pick (.o2 (.bin .lss) (.o1 .ld (.o1 (.fadr 0) (.pad 1))) (.con (.int .i64 1))) (.con (.bool true)) (.o2 (.bin .gtr) (.o1 .ld (.o1 (.fadr 0) (.pad 1))) (.con (.int .i64 3))))⟩], none⟩])
  (.cond (.var 5)
   (.seq (.reg [⟨[⟨[], 2, (.con (.int .i64 1))⟩], none⟩])
   .ret)
   .skip))
  (.seq (.seq (.reg [⟨[⟨[], 6, (.pick (.pick (.o2 (.bin .neq) (.o1 .ld (.o1 (.fadr 0) (.pad 1))) (.con (.int .i64 1))) (.o2 (.bin .gtr) (.o1 .llen (.o1 .ld (.o1 (.fadr 1) (.pad 1)))) (.con (.int .i64 0))) (.con (.bool false))) (.con (.bool true)) (.pick (.o2 (.bin .neq) (.o1 .ld (.o1 (.fadr 0) (.pad 1))) (.con (.int .i64 3))) (.o2 (.bin .neq) (.o1 .ld (.o1 (.fadr 2) (.pad 1))) (.con (.int .i64 0))) (.con (.bool false))))⟩], none⟩])
  (.cond (.var 6)
   (.seq (.reg [⟨[⟨[], 2, (.con (.int .i64 3))⟩], none⟩])
   .ret)
   .skip))
  (.seq (.seq (.reg [⟨[⟨[], 7, (.pick (.o2 (.bin .lss) (.o1 .ld (.o1 (.fadr 2) (.pad 1))) (.con (.int .i64 0))) (.con (.bool true)) (.o2 (.bin .gtr) (.o1 .ld (.o1 (.fadr 2) (.pad 1))) (.con (.int .i64 255))))⟩], none⟩])
  (.cond (.var 7)
   (.seq (.reg [⟨[⟨[], 2, (.con (.int .i64 1))⟩], none⟩])
   .ret)
   .skip))
  (.seq (.seq (.reg [⟨[⟨[], 8, (.o2 (.bin .gtr) (.o1 .llen (.o1 .ld (.o1 (.fadr 1) (.pad 1)))) (.con (.int .i64 4)))⟩], none⟩])
  (.cond (.var 8)
   (.seq (.reg [⟨[⟨[], 2, (.con (.int .i64 2))⟩], none⟩])
   .ret)
   .skip))
  (.seq (.seq (.reg [⟨[⟨[], 3, (.con (.int .i64 0))⟩], none⟩])
  (.block 0 (.loop (.seq (.seq (.reg [⟨[⟨[], 9, (.o2 (.bin .lss) (.var 3) (.o1 .llen (.o1 .ld (.o1 (.fadr 1) (.pad 1)))))⟩], none⟩])
    (.cond (.var 9)
     .skip
     (.exit 0)))
    (.seq (.block 1 (.seq (.reg [⟨[⟨[], 10, (.o1 (.ldn 4) (.o2 (.iadr 4) (.o1 .ld (.o1 (.fadr 1) (.pad 1))) (.var 3)))⟩], some (.pnew 4 (.con (.agg #[(.int .i64 0), (.int .i64 0), (.int .i64 0), (.string .empty)])))⟩, ⟨[], some (.pst 4 (.upd (.cnt 4) 4 4 (.pad 4) (.var 10)))⟩])
     (.seq (.reg [⟨[⟨[], 11, (.pick (.pick (.pick (.pick (.pick (.pick (.o2 (.bin .lss) (.o1 .ld (.o1 (.fadr 0) (.pad 4))) (.con (.int .i64 0))) (.con (.bool true)) (.o2 (.bin .gtr) (.o1 .ld (.o1 (.fadr 0) (.pad 4))) (.con (.int .i64 3)))) (.con (.bool true)) (.o2 (.bin .lss) (.o1 .ld (.o1 (.fadr 1) (.pad 4))) (.con (.int .i64 0)))) (.con (.bool true)) (.o2 (.bin .gtr) (.o1 .ld (.o1 (.fadr 1) (.pad 4))) (.con (.int .i64 255)))) (.con (.bool true)) (.o2 (.bin .lss) (.o1 .ld (.o1 (.fadr 2) (.pad 4))) (.con (.int .i64 0)))) (.con (.bool true)) (.o2 (.bin .gtr) (.o1 .ld (.o1 (.fadr 2) (.pad 4))) (.con (.int .i64 255)))) (.con (.bool true)) (.o2 (.bin .neq) (.o1 .slen (.o1 .ld (.o1 (.fadr 3) (.pad 4)))) (.con (.int .i64 8))))⟩], none⟩])
     (.cond (.var 11)
      (.seq (.reg [⟨[⟨[], 2, (.con (.int .i64 1))⟩], none⟩])
      .ret)
      .skip))))
    (.reg [⟨[⟨[], 3, (.o2 (.bin .add) (.var 3) (.con (.int .i64 1)))⟩], none⟩]))))))
  (.seq (.reg [⟨[⟨[], 2, (.con (.int .i64 0))⟩], none⟩])
  .ret))))))), [(.var 2)]⟩
/-- cratewatch/cratewatchlaw.same -/
def F19 : SFun := ⟨2, 6, (.seq (.reg [⟨[⟨[], 2, (.con (.bool false))⟩], none⟩])
  (.seq (.seq (.reg [⟨[⟨[], 5, (.o2 (.eqv .iface false) (.var 0) (.con .nilIface))⟩], none⟩])
  (.cond (.var 5)
   (.seq (.reg [⟨[⟨[], 2, (.o2 (.bin .eql) (.var 1) (.con (.int .i64 0)))⟩], none⟩])
   .ret)
   .skip))
  (.seq (.reg [⟨[⟨[], 3, (.o1 (.ext 0) (.o1 (.tas 111 (.int .i64 0)) (.var 0)))⟩, ⟨[], 4, (.o1 (.ext 1) (.o1 (.tas 111 (.int .i64 0)) (.var 0)))⟩], none⟩])
  (.seq (.reg [⟨[⟨[], 2, (.pick (.pick (.var 4) (.o2 (.bin .gtr) (.var 1) (.con (.int .i64 0))) (.con (.bool false))) (.o2 (.bin .eql) (.var 3) (.var 1)) (.con (.bool false)))⟩], none⟩])
  .ret)))), [(.var 2)]⟩
/-- cratewatch/frame.Check -/
def F20 : SFun := ⟨1, 14, (.seq (.reg [⟨[], some (.pnew 1 (.var 0))⟩, ⟨[⟨[], 2, (.con .nilIface)⟩], none⟩])
  (.seq (.seq (.reg [⟨[⟨[], 4, (.pick (.o2 (.bin .lss) (.o1 .ld (.o1 (.fadr 0) (.pad 1))) (.con (.int .i64 1))) (.con (.bool true)) (.o2 (.bin .gtr) (.o1 .ld (.o1 (.fadr 0) (.pad 1))) (.con (.int .i64 3))))⟩], none⟩])
  (.cond (.var 4)
   (.seq (.reg [⟨[⟨[], 2, (.o1 (.iface 111) (.con (.int .i64 1)))⟩], none⟩])
   .ret)
   .skip))
  (.seq (.seq (.reg [⟨[⟨[], 5, (.pick (.pick (.o2 (.bin .neq) (.o1 .ld (.o1 (.fadr 0) (.pad 1))) (.con (.int .i64 1))) (.o2 (.bin .gtr) (.o1 .llen (.o1 .ld (.o1 (.fadr 1) (.pad 1)))) (.con (.int .i64 0))) (.con (.bool false))) (.con (.bool true)) (.pick (.o2 (.bin .neq) (.o1 .ld (.o1 (.fadr 0) (.pad 1))) (.con (.int .i64 3))) (.o2 (.bin .neq) (.o1 .ld (.o1 (.fadr 2) (.pad 1))) (.con (.int .i64 0))) (.con (.bool false))))⟩], none⟩])
  (.cond (.var 5)
   (.seq (.reg [⟨[⟨[], 2, (.o1 (.iface 111) (.con (.int .i64 3)))⟩], none⟩])
   .ret)
   .skip))
  (.seq (.seq (.reg [⟨[⟨[], 6, (.pick (.o2 (.bin .lss) (.o1 .ld (.o1 (.fadr 2) (.pad 1))) (.con (.int .i64 0))) (.con (.bool true)) (.o2 (.bin .gtr) (.o1 .ld (.o1 (.fadr 2) (.pad 1))) (.con (.int .i64 255))))⟩], none⟩])
  (.cond (.var 6)
   (.seq (.reg [⟨[⟨[], 2, (.o1 (.iface 111) (.con (.int .i64 1)))⟩], none⟩])
   .ret)
   .skip))
  (.seq (.seq (.reg [⟨[⟨[], 7, (.o2 (.bin .gtr) (.o1 .llen (.o1 .ld (.o1 (.fadr 1) (.pad 1)))) (.con (.int .i64 4)))⟩], none⟩])
  (.cond (.var 7)
   (.seq (.reg [⟨[⟨[], 2, (.o1 (.iface 111) (.con (.int .i64 2)))⟩], none⟩])
   .ret)
   .skip))
  (.seq (.seq (.reg [⟨[⟨[], 8, (.o1 .ld (.o1 (.fadr 1) (.pad 1)))⟩, ⟨[], 9, (.o1 .llen (.o1 .ld (.o1 (.fadr 1) (.pad 1))))⟩, ⟨[], 10, (.con (.int .i64 0))⟩], none⟩])
  (.block 0 (.loop (.seq (.reg [⟨[⟨[], 11, (.o2 (.bin .lss) (.var 10) (.var 9))⟩], none⟩])
    (.seq (.cond (.var 11)
     .skip
     (.exit 0))
    (.seq (.block 1 (.seq (.reg [⟨[⟨[], 12, (.o1 (.ldn 4) (.o2 (.iadr 4) (.var 8) (.var 10)))⟩], some (.pnew 3 (.con (.agg #[(.int .i64 0), (.int .i64 0), (.int .i64 0), (.string .empty)])))⟩, ⟨[], some (.pst 3 (.upd (.cnt 3) 3 4 (.pad 3) (.var 12)))⟩])
     (.seq (.reg [⟨[⟨[], 13, (.pick (.pick (.pick (.pick (.pick (.pick (.o2 (.bin .lss) (.o1 .ld (.o1 (.fadr 0) (.pad 3))) (.con (.int .i64 0))) (.con (.bool true)) (.o2 (.bin .geq) (.o1 .ld (.o1 (.fadr 0) (.pad 3))) (.con (.int .i64 4)))) (.con (.bool true)) (.o2 (.bin .lss) (.o1 .ld (.o1 (.fadr 1) (.pad 3))) (.con (.int .i64 0)))) (.con (.bool true)) (.o2 (.bin .gtr) (.o1 .ld (.o1 (.fadr 1) (.pad 3))) (.con (.int .i64 255)))) (.con (.bool true)) (.o2 (.bin .lss) (.o1 .ld (.o1 (.fadr 2) (.pad 3))) (.con (.int .i64 0)))) (.con (.bool true)) (.o2 (.bin .gtr) (.o1 .ld (.o1 (.fadr 2) (.pad 3))) (.con (.int .i64 255)))) (.con (.bool true)) (.o2 (.bin .neq) (.o1 .slen (.o1 .ld (.o1 (.fadr 3) (.pad 3)))) (.con (.int .i64 8))))⟩], none⟩])
     (.cond (.var 13)
      (.seq (.reg [⟨[⟨[], 2, (.o1 (.iface 111) (.con (.int .i64 1)))⟩], none⟩])
      .ret)
      .skip))))
    (.reg [⟨[⟨[], 10, (.o2 (.bin .add) (.var 10) (.con (.int .i64 1)))⟩], none⟩])))))))
  (.seq (.reg [⟨[⟨[], 2, (.con .nilIface)⟩], none⟩])
  .ret))))))), [(.var 2)]⟩
/-- cratewatch/track.New -/
def F28 : SFun := ⟨2, 9, (.seq (.reg [⟨[⟨[], 2, (.con (.pointer none))⟩, ⟨[], 3, (.con .nilIface)⟩], none⟩])
  (.seq (.seq (.reg [⟨[⟨[], 4, (.pick (.pick (.pick (.o2 (.bin .lss) (.var 0) (.con (.int .i64 1))) (.con (.bool true)) (.o2 (.bin .gtr) (.var 0) (.con (.int .i64 8)))) (.con (.bool true)) (.o2 (.bin .lss) (.var 1) (.con (.int .i64 1)))) (.con (.bool true)) (.o2 (.bin .gtr) (.var 1) (.var 0)))⟩], none⟩])
  (.cond (.var 4)
   (.seq (.reg [⟨[⟨[], 2, (.con (.pointer none))⟩, ⟨[], 3, (.o1 (.iface 111) (.con (.int .i64 1)))⟩], none⟩])
   .ret)
   .skip))
  (.seq (.reg [⟨[⟨[], 5, (.var 0)⟩, ⟨[], 6, (.var 1)⟩], some (.ef [] .mnew [] (some 7))⟩, ⟨[], some (.ef [] (.new 121) [(.o2 (.bput 3 1) (.o2 (.bput 1 1) (.o2 (.bput 0 1) (.con (.agg #[(.int .i64 0), (.int .i64 0), (.slice none 0 0), (.map none)])) (.var 5)) (.var 6)) (.var 7))] (some 8))⟩, ⟨[⟨[], 2, (.var 8)⟩, ⟨[], 3, (.con .nilIface)⟩], none⟩])
  .ret))), [(.var 2), (.var 3)]⟩
/-- (*cratewatch/track.Track).Tell -/
def F29 : SFun := ⟨2, 45, (.seq (.reg [⟨[⟨[], 2, (.con .nilIface)⟩], none⟩])
  (.seq (.reg [⟨[], some (.ef [] .mnew [] (some 8))⟩, ⟨[⟨[], 3, (.var 8)⟩], none⟩])
  (.seq (.seq (.reg [⟨[⟨[], 9, (.var 1)⟩, ⟨[], 10, (.o1 .llen (.var 1))⟩, ⟨[], 11, (.con (.int .i64 0))⟩], none⟩])
  (.block 0 (.loop (.seq (.reg [⟨[⟨[], 12, (.o2 (.bin .lss) (.var 11) (.var 10))⟩], none⟩])
    (.seq (.cond (.var 12)
     .skip
     (.exit 0))
    (.seq (.block 1 (.seq (.reg [⟨[⟨[], 13, (.o1 (.ldn 4) (.o2 (.iadr 4) (.var 9) (.var 11)))⟩], some (.pnew 4 (.con (.agg #[(.int .i64 0), (.int .i64 0), (.int .i64 0), (.string .empty)])))⟩, ⟨[], some (.pst 4 (.upd (.cnt 4) 4 4 (.pad 4) (.var 13)))⟩])
     (.seq (.seq (.reg [⟨[⟨[], 14, (.pick (.pick (.pick (.o2 (.bin .lss) (.o1 .ld (.o1 (.fadr 0) (.pad 4))) (.con (.int .i64 0))) (.con (.bool true)) (.o2 (.bin .geq) (.o1 .ld (.o1 (.fadr 0) (.pad 4))) (.con (.int .i64 8)))) (.con (.bool true)) (.o2 (.bin .lss) (.o1 .ld (.o1 (.fadr 1) (.pad 4))) (.con (.int .i64 0)))) (.con (.bool true)) (.o2 (.bin .gtr) (.o1 .ld (.o1 (.fadr 1) (.pad 4))) (.con (.int .i64 255))))⟩], none⟩])
     (.cond (.var 14)
      (.seq (.reg [⟨[⟨[], 2, (.o1 (.iface 111) (.con (.int .i64 1)))⟩], none⟩])
      .ret)
      .skip))
     (.seq (.seq (.reg [⟨[⟨[], 15, (.o2 (.eqv .map false) (.o2 (.lkp .str (.map none)) (.var 3) (.o1 .ld (.o1 (.fadr 3) (.pad 4)))) (.con (.map none)))⟩], none⟩])
     (.cond (.var 15)
      (.reg [⟨[⟨[], 16, (.var 3)⟩, ⟨[], 17, (.o1 .ld (.o1 (.fadr 3) (.pad 4)))⟩], some (.ef [] .mnew [] (some 18))⟩, ⟨[], some (.ef [] (.mupd .str) [(.var 16), (.var 17), (.var 18)] none)⟩])
      .skip))
     (.reg [⟨[], some (.ef [] (.mupd .int) [(.o2 (.lkp .str (.map none)) (.var 3) (.o1 .ld (.o1 (.fadr 3) (.pad 4)))), (.o1 .ld (.o1 (.fadr 0) (.pad 4))), (.o2 (.bin .add) (.o2 (.lkp .int (.int .i64 0)) (.o2 (.lkp .str (.map none)) (.var 3) (.o1 .ld (.o1 (.fadr 3) (.pad 4)))) (.o1 .ld (.o1 (.fadr 0) (.pad 4)))) (.o1 .ld (.o1 (.fadr 1) (.pad 4))))] none)⟩])))))
    (.reg [⟨[⟨[], 11, (.o2 (.bin .add) (.var 11) (.con (.int .i64 1)))⟩], none⟩])))))))
  (.seq (.reg [⟨[⟨[], 19, (.var 0)⟩, ⟨[], 20, (.o1 .ld (.o1 (.fadr 2) (.o1 .nilck (.var 0))))⟩], some (.ef [] (.bsl 122 1) [(.o2 (.bput 0 1) (.con (.agg #[(.map none)])) (.var 3))] (some 21))⟩, ⟨[], some (.ef [] (.app 122 1 8) [(.var 20), (.var 21)] (some 22))⟩, ⟨[], some (.ef [] (.st 1) [(.o1 (.fadr 2) (.o1 .nilck (.var 19))), (.var 22)] none)⟩])
  (.seq (.seq (.reg [⟨[], some (.ef [] .rng [(.var 3)] (some 23))⟩])
  (.block 2 (.loop (.seq (.reg [⟨[], some (.ef [] .nxt [(.var 23)] (some 24))⟩, ⟨[⟨[], 25, (.o1 (.ext 0) (.var 24))⟩], none⟩])
    (.seq (.cond (.var 25)
     .skip
     (.exit 2))
    (.block 3 (.seq (.reg [⟨[], some (.ef [] .ent [(.var 23)] (some 26))⟩, ⟨[⟨[], 5, (.o1 (.ext 0) (.var 26))⟩], none⟩])
     (.seq (.reg [⟨[⟨[], 27, (.o2 (.eqv .slice false) (.o2 (.lkp .str (.slice none 0 0)) (.o1 .ld (.o1 (.fadr 3) (.o1 .nilck (.var 0)))) (.var 5)) (.con (.slice none 0 0)))⟩], none⟩])
     (.cond (.var 27)
      (.reg [⟨[⟨[], 28, (.o1 .ld (.o1 (.fadr 3) (.o1 .nilck (.var 0))))⟩, ⟨[], 29, (.var 5)⟩], some (.ef [] (.bsl 3 0) [(.con (.agg #[]))] (some 30))⟩, ⟨[], some (.ef [] (.mupd .str) [(.var 28), (.var 29), (.var 30)] none)⟩])
      .skip)))))))))
  (.seq (.seq (.reg [⟨[], some (.ef [] .rng [(.o1 .ld (.o1 (.fadr 3) (.o1 .nilck (.var 0))))] (some 31))⟩])
  (.block 4 (.loop (.seq (.reg [⟨[], some (.ef [] .nxt [(.var 31)] (some 32))⟩, ⟨[⟨[], 33, (.o1 (.ext 0) (.var 32))⟩], none⟩])
    (.seq (.cond (.var 33)
     .skip
     (.exit 4))
    (.block 5 (.seq (.reg [⟨[], some (.ef [] .ent [(.var 31)] (some 34))⟩, ⟨[⟨[], 6, (.o1 (.ext 0) (.var 34))⟩, ⟨[], 7, (.o1 (.ext 1) (.var 34))⟩], none⟩])
     (.seq (.block 6 (.loop (.seq (.seq (.reg [⟨[⟨[], 35, (.o2 (.bin .lss) (.o1 .llen (.var 7)) (.o2 (.bin .sub) (.o1 .llen (.o1 .ld (.o1 (.fadr 2) (.o1 .nilck (.var 0))))) (.con (.int .i64 1))))⟩], none⟩])
       (.cond (.var 35)
        .skip
        (.exit 6)))
       (.block 7 (.reg [⟨[⟨[], 36, (.var 7)⟩], some (.ef [] (.bsl 3 1) [(.o2 (.bput 0 1) (.con (.agg #[(.int .i64 0)])) (.con (.int .i64 (-1))))] (some 37))⟩, ⟨[], some (.ef [] (.app 3 1 8) [(.var 36), (.var 37)] (some 38))⟩, ⟨[⟨[], 7, (.var 38)⟩], none⟩])))))
     (.dreg (.eff true [⟨[], 0, (.o1 .ld (.o1 (.fadr 3) (.o1 .nilck (.var 0))))⟩] ⟨[⟨[], 39, (.o1 .ld (.o1 (.fadr 3) (.o1 .nilck (.var 0))))⟩, ⟨[], 40, (.var 6)⟩, ⟨[], 41, (.var 7)⟩], some (.ef [] (.call 60) [(.var 0), (.var 6)] (some 42))⟩ (.eff true [] ⟨[], some (.ef [] (.bsl 3 1) [(.o2 (.bput 0 1) (.con (.agg #[(.int .i64 0)])) (.var 42))] (some 43))⟩ (.eff true [] ⟨[], some (.ef [] (.app 3 1 8) [(.var 41), (.var 43)] (some 44))⟩ (.eff false [] ⟨[], some (.ef [] (.mupd .str) [(.var 39), (.var 40), (.var 44)] none)⟩ (.done ⟨[], none⟩))))))))))))))
  (.seq (.reg [⟨[⟨[], 2, (.con .nilIface)⟩], none⟩])
  .ret))))))), [(.var 2)]⟩
/-- (*cratewatch/track.Track).Where -/
def F30 : SFun := ⟨3, 9, (.seq (.reg [⟨[⟨[], 3, (.con (.int .i64 0))⟩, ⟨[], 4, (.con .nilIface)⟩], none⟩])
  (.seq (.seq (.reg [⟨[⟨[], 7, (.pick (.o2 (.bin .lss) (.var 2) (.con (.int .i64 0))) (.con (.bool true)) (.o2 (.bin .geq) (.var 2) (.o1 .llen (.o1 .ld (.o1 (.fadr 2) (.o1 .nilck (.var 0)))))))⟩], none⟩])
  (.cond (.var 7)
   (.seq (.reg [⟨[⟨[], 3, (.con (.int .i64 0))⟩, ⟨[], 4, (.o1 (.iface 111) (.con (.int .i64 1)))⟩], none⟩])
   .ret)
   .skip))
  (.seq (.reg [⟨[⟨[], 5, (.o1 (.ext 0) (.o2 (.lkpo .str (.slice none 0 0)) (.o1 .ld (.o1 (.fadr 3) (.o1 .nilck (.var 0)))) (.var 1)))⟩, ⟨[], 6, (.o1 (.ext 1) (.o2 (.lkpo .str (.slice none 0 0)) (.o1 .ld (.o1 (.fadr 3) (.o1 .nilck (.var 0)))) (.var 1)))⟩], none⟩])
  (.seq (.seq (.reg [⟨[⟨[], 8, (.o1 .not (.var 6))⟩], none⟩])
  (.cond (.var 8)
   (.seq (.reg [⟨[⟨[], 3, (.con (.int .i64 0))⟩, ⟨[], 4, (.o1 (.iface 111) (.con (.int .i64 5)))⟩], none⟩])
   .ret)
   .skip))
  (.seq (.reg [⟨[⟨[], 3, (.o1 .ld (.o2 (.iadr 1) (.var 5) (.var 2)))⟩, ⟨[], 4, (.con .nilIface)⟩], none⟩])
  .ret))))), [(.var 3), (.var 4)]⟩
/-- (*cratewatch/track.Track).Epochs -/
def F31 : SFun := ⟨1, 2, (.seq (.reg [⟨[⟨[], 1, (.con (.int .i64 0))⟩], none⟩])
  (.seq (.reg [⟨[⟨[], 1, (.o1 .llen (.o1 .ld (.o1 (.fadr 2) (.o1 .nilck (.var 0)))))⟩], none⟩])
  .ret)), [(.var 1)]⟩
/-- (*cratewatch/cratewatchref.Track).Told -/
def F55 : SFun := ⟨3, 9, (.seq (.reg [⟨[⟨[], 3, (.con (.bool false))⟩], none⟩])
  (.seq (.seq (.reg [⟨[⟨[], 4, (.con (.int .i64 0))⟩], none⟩])
  (.block 0 (.loop (.seq (.seq (.reg [⟨[⟨[], 6, (.pick (.o2 (.bin .lss) (.var 4) (.o1 .llen (.o1 .ld (.o1 (.fadr 2) (.o1 .nilck (.var 0)))))) (.o2 (.bin .leq) (.var 4) (.var 2)) (.con (.bool false)))⟩], none⟩])
    (.cond (.var 6)
     .skip
     (.exit 0)))
    (.seq (.block 1 (.seq (.reg [⟨[⟨[], 5, (.con (.int .i64 0))⟩], none⟩])
     (.block 2 (.loop (.seq (.seq (.reg [⟨[⟨[], 7, (.o2 (.bin .lss) (.var 5) (.o1 .llen (.o1 .ld (.o2 (.iadr 1) (.o1 .ld (.o1 (.fadr 2) (.o1 .nilck (.var 0)))) (.var 4)))))⟩], none⟩])
       (.cond (.var 7)
        .skip
        (.exit 2)))
       (.seq (.block 3 (.seq (.reg [⟨[⟨[], 8, (.o2 (.bin .eql) (.o1 .ld (.o1 (.fadr 3) (.o2 (.iadr 4) (.o1 .ld (.o2 (.iadr 1) (.o1 .ld (.o1 (.fadr 2) (.o1 .nilck (.var 0)))) (.var 4))) (.var 5)))) (.var 1))⟩], none⟩])
        (.cond (.var 8)
         (.seq (.reg [⟨[⟨[], 3, (.con (.bool true))⟩], none⟩])
         .ret)
         .skip)))
       (.reg [⟨[⟨[], 5, (.o2 (.bin .add) (.var 5) (.con (.int .i64 1)))⟩], none⟩])))))))
    (.reg [⟨[⟨[], 4, (.o2 (.bin .add) (.var 4) (.con (.int .i64 1)))⟩], none⟩]))))))
  (.seq (.reg [⟨[⟨[], 3, (.con (.bool false))⟩], none⟩])
  .ret))), [(.var 3)]⟩
/-- cratewatch/frame.sum -/
def F56 : SFun := ⟨1, 7, (.seq (.reg [⟨[⟨[], 1, (.con (.int .u8 0))⟩], none⟩])
  (.seq (.reg [⟨[⟨[], 2, (.con (.int .u8 0))⟩], none⟩])
  (.seq (.seq (.reg [⟨[⟨[], 4, (.o1 .slen (.var 0))⟩, ⟨[], 5, (.con (.int .i64 0))⟩], none⟩])
  (.block 0 (.loop (.seq (.reg [⟨[⟨[], 6, (.o2 (.bin .lss) (.var 5) (.var 4))⟩], none⟩])
    (.seq (.cond (.var 6)
     .skip
     (.exit 0))
    (.seq (.block 1 (.seq (.reg [⟨[⟨[], 3, (.var 5)⟩], none⟩])
     (.reg [⟨[⟨[], 2, (.o2 (.bin .add) (.var 2) (.o2 .sidx (.var 0) (.var 3)))⟩], none⟩])))
    (.reg [⟨[⟨[], 5, (.o2 (.bin .add) (.var 5) (.con (.int .i64 1)))⟩], none⟩])))))))
  (.seq (.reg [⟨[⟨[], 1, (.o1 .inv (.var 2))⟩], none⟩])
  .ret)))), [(.var 1)]⟩
/-- (*cratewatch/track.Track).place -/
def F60 : SFun := ⟨2, 25, (.seq (.reg [⟨[⟨[], 2, (.con (.int .i64 0))⟩], none⟩])
  (.seq (.reg [⟨[], some (.ef [] (.new 149) [(.con (.agg #[(.int .i64 0), (.int .i64 0), (.int .i64 0), (.int .i64 0), (.int .i64 0), (.int .i64 0), (.int .i64 0), (.int .i64 0)]))] (some 3))⟩, ⟨[], some (.ef [] (.new 149) [(.con (.agg #[(.int .i64 0), (.int .i64 0), (.int .i64 0), (.int .i64 0), (.int .i64 0), (.int .i64 0), (.int .i64 0), (.int .i64 0)]))] (some 4))⟩])
  (.seq (.reg [⟨[⟨[], 5, (.o1 .llen (.o1 .ld (.o1 (.fadr 2) (.o1 .nilck (.var 0)))))⟩], none⟩])
  (.seq (.seq (.dreg (.done ⟨[⟨[], 12, (.o3 (.lsl 1) (.o1 .ld (.o1 (.fadr 2) (.o1 .nilck (.var 0)))) (.o2 .max (.con (.int .i64 0)) (.o2 (.bin .sub) (.var 5) (.o1 .ld (.o1 (.fadr 0) (.o1 .nilck (.var 0)))))) (.o1 .llen (.o1 .ld (.o1 (.fadr 2) (.o1 .nilck (.var 0))))))⟩, ⟨[], 13, (.o1 .llen (.o3 (.lsl 1) (.o1 .ld (.o1 (.fadr 2) (.o1 .nilck (.var 0)))) (.o2 .max (.con (.int .i64 0)) (.o2 (.bin .sub) (.var 5) (.o1 .ld (.o1 (.fadr 0) (.o1 .nilck (.var 0)))))) (.o1 .llen (.o1 .ld (.o1 (.fadr 2) (.o1 .nilck (.var 0)))))))⟩, ⟨[], 14, (.con (.int .i64 0))⟩], none⟩))
  (.block 0 (.loop (.seq (.reg [⟨[⟨[], 15, (.o2 (.bin .lss) (.var 14) (.var 13))⟩], none⟩])
    (.seq (.cond (.var 15)
     .skip
     (.exit 0))
    (.seq (.block 1 (.seq (.reg [⟨[⟨[], 6, (.o1 .ld (.o2 (.iadr 1) (.var 12) (.var 14)))⟩], none⟩])
     (.seq (.reg [⟨[], some (.ef [] .rng [(.o2 (.lkp .str (.map none)) (.var 6) (.var 1))] (some 16))⟩])
     (.block 2 (.loop (.seq (.reg [⟨[], some (.ef [] .nxt [(.var 16)] (some 17))⟩, ⟨[⟨[], 18, (.o1 (.ext 0) (.var 17))⟩], none⟩])
       (.seq (.cond (.var 18)
        .skip
        (.exit 2))
       (.block 3 (.seq (.reg [⟨[], some (.ef [] .ent [(.var 16)] (some 19))⟩, ⟨[⟨[], 7, (.o1 (.ext 0) (.var 19))⟩, ⟨[], 8, (.o1 (.ext 1) (.var 19))⟩], none⟩])
        (.seq (.reg [⟨[], some (.ef [] (.st 1) [(.o2 (.aadr 8 1) (.var 3) (.var 7)), (.o2 (.bin .add) (.o1 .ld (.o2 (.aadr 8 1) (.var 3) (.var 7))) (.con (.int .i64 1)))] none)⟩])
        (.reg [⟨[], some (.ef [] (.st 1) [(.o2 (.aadr 8 1) (.var 4) (.var 7)), (.o2 (.bin .add) (.o1 .ld (.o2 (.aadr 8 1) (.var 4) (.var 7))) (.var 8))] none)⟩])))))))))))
    (.reg [⟨[⟨[], 14, (.o2 (.bin .add) (.var 14) (.con (.int .i64 1)))⟩], none⟩])))))))
  (.seq (.reg [⟨[⟨[], 9, (.con (.int .i64 (-1)))⟩], none⟩])
  (.seq (.seq (.reg [⟨[⟨[], 20, (.o1 (.ldn 8) (.var 3))⟩, ⟨[], 21, (.con (.int .i64 0))⟩], none⟩])
  (.block 4 (.loop (.seq (.reg [⟨[⟨[], 22, (.o2 (.bin .lss) (.var 21) (.con (.int .i64 8)))⟩], none⟩])
    (.seq (.cond (.var 22)
     .skip
     (.exit 4))
    (.seq (.block 5 (.seq (.reg [⟨[⟨[], 10, (.var 21)⟩, ⟨[], 11, (.o2 (.vidx 8) (.var 20) (.var 21))⟩], none⟩])
     (.seq (.seq (.reg [⟨[⟨[], 23, (.o2 (.bin .lss) (.var 11) (.o1 .ld (.o1 (.fadr 1) (.o1 .nilck (.var 0)))))⟩], none⟩])
     (.cond (.var 23)
      (.exit 5)
      .skip))
     (.seq (.dreg (.done ⟨[⟨[], 24, (.pick (.pick (.o2 (.bin .lss) (.var 9) (.con (.int .i64 0))) (.con (.bool true)) (.o2 (.bin .gtr) (.var 11) (.o1 .ld (.o2 (.aadr 8 1) (.var 3) (.var 9))))) (.con (.bool true)) (.pick (.o2 (.bin .eql) (.var 11) (.o1 .ld (.o2 (.aadr 8 1) (.var 3) (.var 9)))) (.o2 (.bin .gtr) (.o1 .ld (.o2 (.aadr 8 1) (.var 4) (.var 10))) (.o1 .ld (.o2 (.aadr 8 1) (.var 4) (.var 9)))) (.con (.bool false))))⟩], none⟩))
     (.cond (.var 24)
      (.reg [⟨[⟨[], 9, (.var 10)⟩], none⟩])
      .skip)))))
    (.reg [⟨[⟨[], 21, (.o2 (.bin .add) (.var 21) (.con (.int .i64 1)))⟩], none⟩])))))))
  (.seq (.reg [⟨[⟨[], 2, (.var 9)⟩], none⟩])
  .ret))))))), [(.var 2)]⟩
/-- cratewatch/cratewatchref.TagBytes -/
def F65 : SFun := ⟨1, 24, (.seq (.reg [⟨[], some (.pnew 1 (.var 0))⟩, ⟨[⟨[], 2, (.con (.string .empty))⟩], none⟩])
  (.seq (.reg [⟨[], some (.ef [] (.call 79) [(.o1 .ld (.o1 (.fadr 2) (.pad 1)))] (some 9))⟩, ⟨[⟨[], 10, (.o1 (.ext 0) (.var 9))⟩, ⟨[], 11, (.o1 (.ext 1) (.var 9))⟩], some (.ef [] (.new 162) [(.con (.agg #[(.int .i64 0), (.int .i64 0), (.int .i64 0), (.int .i64 0)]))] (some 3))⟩, ⟨[], some (.ef [] (.st 4) [(.var 3), (.var 10)] none)⟩, ⟨[], none⟩])
  (.seq (.reg [⟨[], some (.ef [] (.call 80) [(.con (.slice none 0 0)), (.o2 (.bin .add) (.con (.int .i64 47)) (.o1 .ld (.o1 (.fadr 0) (.pad 1)))), (.con (.int .i64 8))] (some 12))⟩, ⟨[⟨[], 4, (.var 12)⟩], none⟩])
  (.seq (.reg [⟨[], some (.ef [] (.call 80) [(.var 4), (.o1 .ld (.o1 (.fadr 1) (.pad 1))), (.con (.int .i64 3))] (some 13))⟩, ⟨[⟨[], 4, (.var 13)⟩], none⟩])
  (.seq (.reg [⟨[], some (.ef [] (.call 80) [(.var 4), (.o1 .ld (.o1 (.fadr 2) (.pad 1))), (.con (.int .i64 3))] (some 14))⟩, ⟨[⟨[], 4, (.var 14)⟩], none⟩])
  (.seq (.reg [⟨[], some (.ef [] (.call 80) [(.var 4), (.o1 .ld (.o1 (.fadr 3) (.pad 1))), (.o1 .ld (.o2 (.aadr 4 1) (.var 3) (.con (.int .i64 0))))] (some 15))⟩, ⟨[⟨[], 4, (.var 15)⟩], none⟩])
  (.seq (.reg [⟨[], some (.ef [] (.call 80) [(.var 4), (.o1 .ld (.o1 (.fadr 4) (.pad 1))), (.o1 .ld (.o2 (.aadr 4 1) (.var 3) (.con (.int .i64 2))))] (some 16))⟩, ⟨[⟨[], 4, (.var 16)⟩], none⟩])
  (.seq (.reg [⟨[], some (.ef [] (.call 80) [(.var 4), (.o1 .ld (.o1 (.fadr 5) (.pad 1))), (.con (.int .i64 24))] (some 17))⟩, ⟨[⟨[], 4, (.var 17)⟩], none⟩])
  (.seq (.reg [⟨[⟨[], 5, (.con (.slice none 0 0))⟩], none⟩])
  (.seq (.seq (.reg [⟨[⟨[], 6, (.con (.int .i64 0))⟩], none⟩])
  (.block 0 (.loop (.seq (.seq (.reg [⟨[⟨[], 18, (.o2 (.bin .lss) (.var 6) (.con (.int .i64 8)))⟩], none⟩])
    (.cond (.var 18)
     .skip
     (.exit 0)))
    (.seq (.block 1 (.seq (.reg [⟨[⟨[], 7, (.con (.int .i64 0))⟩], none⟩])
     (.seq (.seq (.reg [⟨[⟨[], 8, (.con (.int .i64 0))⟩], none⟩])
     (.block 2 (.loop (.seq (.seq (.reg [⟨[⟨[], 19, (.o2 (.bin .lss) (.var 8) (.con (.int .i64 8)))⟩], none⟩])
       (.cond (.var 19)
        .skip
        (.exit 2)))
       (.seq (.block 3 (.seq (.reg [⟨[⟨[], 7, (.o2 (.bin .mul) (.con (.int .i64 2)) (.var 7))⟩], none⟩])
        (.seq (.reg [⟨[⟨[], 20, (.o1 .ld (.o2 (.iadr 1) (.var 4) (.o2 (.bin .add) (.o2 (.bin .mul) (.con (.int .i64 8)) (.var 6)) (.var 8))))⟩], none⟩])
        (.cond (.var 20)
         (.reg [⟨[⟨[], 7, (.o2 (.bin .add) (.var 7) (.con (.int .i64 1)))⟩], none⟩])
         .skip))))
       (.reg [⟨[⟨[], 8, (.o2 (.bin .add) (.var 8) (.con (.int .i64 1)))⟩], none⟩]))))))
     (.reg [⟨[⟨[], 21, (.var 5)⟩], some (.ef [] (.bsl 5 1) [(.o2 (.bput 0 1) (.con (.agg #[(.int .u8 0)])) (.o1 (.conv .u8) (.var 7)))] (some 22))⟩, ⟨[], some (.ef [] (.app 5 1 1) [(.var 21), (.var 22)] (some 23))⟩, ⟨[⟨[], 5, (.var 23)⟩], none⟩]))))
    (.reg [⟨[⟨[], 6, (.o2 (.bin .add) (.var 6) (.con (.int .i64 1)))⟩], none⟩]))))))
  (.seq (.reg [⟨[⟨[], 2, (.o1 .b2s (.var 5))⟩], none⟩])
  .ret))))))))))), [(.var 2)]⟩
/-- cratewatch/inside.kind -/
def F66 : SFun := ⟨1, 8, (.seq (.reg [⟨[⟨[], 1, (.con (.int .i64 0))⟩], none⟩])
  (.seq (.reg [⟨[], some (.ef [] (.call 81) [(.var 0)] (some 4))⟩, ⟨[⟨[], 5, (.o1 (.ext 0) (.var 4))⟩, ⟨[], 6, (.o1 (.ext 1) (.var 4))⟩], some (.pnew 2 (.con (.agg #[(.int .i64 0), (.int .i64 0), (.int .i64 0), (.int .i64 0), (.int .i64 0), (.int .i64 0)])))⟩, ⟨[], some (.pst 2 (.upd (.cnt 2) 2 6 (.pad 2) (.var 5)))⟩, ⟨[⟨[], 3, (.var 6)⟩], none⟩])
  (.seq (.seq (.reg [⟨[⟨[], 7, (.o2 (.eqv .iface true) (.var 3) (.con .nilIface))⟩], none⟩])
  (.cond (.var 7)
   (.seq (.reg [⟨[⟨[], 1, (.con (.int .i64 0))⟩], none⟩])
   .ret)
   .skip))
  (.seq (.reg [⟨[⟨[], 1, (.o1 .ld (.o1 (.fadr 0) (.pad 2)))⟩], none⟩])
  .ret)))), [(.var 1)]⟩
/-- cratewatch/cratewatchref.Parts -/
def F79 : SFun := ⟨1, 10, (.seq (.reg [⟨[], some (.pnew 1 (.con (.agg #[(.int .i64 0), (.int .i64 0), (.int .i64 0), (.int .i64 0)])))⟩, ⟨[⟨[], 2, (.con (.bool false))⟩], none⟩])
  (.seq (.seq (.reg [⟨[⟨[], 3, (.var 0)⟩], none⟩])
  (.block 0 (.seq (.reg [⟨[⟨[], 4, (.o2 (.bin .eql) (.var 3) (.con (.int .i64 0)))⟩], none⟩])
   (.cond (.var 4)
    (.seq (.reg [⟨[], some (.pst 1 (.upd (.cnt 1) 1 4 (.pad 1) (.o2 (.bput 3 1) (.o2 (.bput 2 1) (.o2 (.bput 1 1) (.o2 (.bput 0 1) (.con (.agg #[(.int .i64 0), (.int .i64 0), (.int .i64 0), (.int .i64 0)])) (.con (.int .i64 20))) (.con (.int .i64 6))) (.con (.int .i64 6))) (.con (.int .i64 1)))))⟩, ⟨[⟨[], 2, (.con (.bool true))⟩], none⟩])
    .ret)
    (.seq (.reg [⟨[⟨[], 5, (.o2 (.bin .eql) (.var 3) (.con (.int .i64 1)))⟩], none⟩])
    (.cond (.var 5)
     (.seq (.reg [⟨[], some (.pst 1 (.upd (.cnt 1) 1 4 (.pad 1) (.o2 (.bput 3 1) (.o2 (.bput 2 1) (.o2 (.bput 1 1) (.o2 (.bput 0 1) (.con (.agg #[(.int .i64 0), (.int .i64 0), (.int .i64 0), (.int .i64 0)])) (.con (.int .i64 17))) (.con (.int .i64 5))) (.con (.int .i64 9))) (.con (.int .i64 2)))))⟩, ⟨[⟨[], 2, (.con (.bool true))⟩], none⟩])
     .ret)
     (.seq (.reg [⟨[⟨[], 6, (.o2 (.bin .eql) (.var 3) (.con (.int .i64 2)))⟩], none⟩])
     (.cond (.var 6)
      (.seq (.reg [⟨[], some (.pst 1 (.upd (.cnt 1) 1 4 (.pad 1) (.o2 (.bput 3 1) (.o2 (.bput 2 1) (.o2 (.bput 1 1) (.o2 (.bput 0 1) (.con (.agg #[(.int .i64 0), (.int .i64 0), (.int .i64 0), (.int .i64 0)])) (.con (.int .i64 14))) (.con (.int .i64 4))) (.con (.int .i64 12))) (.con (.int .i64 3)))))⟩, ⟨[⟨[], 2, (.con (.bool true))⟩], none⟩])
      .ret)
      (.seq (.reg [⟨[⟨[], 7, (.o2 (.bin .eql) (.var 3) (.con (.int .i64 3)))⟩], none⟩])
      (.cond (.var 7)
       (.seq (.reg [⟨[], some (.pst 1 (.upd (.cnt 1) 1 4 (.pad 1) (.o2 (.bput 3 1) (.o2 (.bput 2 1) (.o2 (.bput 1 1) (.o2 (.bput 0 1) (.con (.agg #[(.int .i64 0), (.int .i64 0), (.int .i64 0), (.int .i64 0)])) (.con (.int .i64 10))) (.con (.int .i64 3))) (.con (.int .i64 16))) (.con (.int .i64 4)))))⟩, ⟨[⟨[], 2, (.con (.bool true))⟩], none⟩])
       .ret)
       (.seq (.reg [⟨[⟨[], 8, (.o2 (.bin .eql) (.var 3) (.con (.int .i64 4)))⟩], none⟩])
       (.cond (.var 8)
        (.seq (.reg [⟨[], some (.pst 1 (.upd (.cnt 1) 1 4 (.pad 1) (.o2 (.bput 3 1) (.o2 (.bput 2 1) (.o2 (.bput 1 1) (.o2 (.bput 0 1) (.con (.agg #[(.int .i64 0), (.int .i64 0), (.int .i64 0), (.int .i64 0)])) (.con (.int .i64 7))) (.con (.int .i64 2))) (.con (.int .i64 19))) (.con (.int .i64 5)))))⟩, ⟨[⟨[], 2, (.con (.bool true))⟩], none⟩])
        .ret)
        (.seq (.reg [⟨[⟨[], 9, (.o2 (.bin .eql) (.var 3) (.con (.int .i64 5)))⟩], none⟩])
        (.cond (.var 9)
         (.seq (.reg [⟨[], some (.pst 1 (.upd (.cnt 1) 1 4 (.pad 1) (.o2 (.bput 3 1) (.o2 (.bput 2 1) (.o2 (.bput 1 1) (.o2 (.bput 0 1) (.con (.agg #[(.int .i64 0), (.int .i64 0), (.int .i64 0), (.int .i64 0)])) (.con (.int .i64 4))) (.con (.int .i64 1))) (.con (.int .i64 22))) (.con (.int .i64 6)))))⟩, ⟨[⟨[], 2, (.con (.bool true))⟩], none⟩])
         .ret)
         .skip))))))))))))))
  (.seq (.reg [⟨[], some (.pst 1 (.upd (.cnt 1) 1 4 (.pad 1) (.con (.agg #[(.int .i64 0), (.int .i64 0), (.int .i64 0), (.int .i64 0)]))))⟩, ⟨[⟨[], 2, (.con (.bool false))⟩], none⟩])
  .ret))), [(.o1 (.ldn 4) (.pad 1)), (.var 2)]⟩
/-- cratewatch/cratewatchref.bits -/
def F80 : SFun := ⟨3, 9, (.seq (.reg [⟨[⟨[], 3, (.con (.slice none 0 0))⟩], none⟩])
  (.seq (.seq (.reg [⟨[⟨[], 4, (.o2 (.bin .sub) (.var 2) (.con (.int .i64 1)))⟩], none⟩])
  (.block 0 (.loop (.seq (.seq (.reg [⟨[⟨[], 5, (.o2 (.bin .geq) (.var 4) (.con (.int .i64 0)))⟩], none⟩])
    (.cond (.var 5)
     .skip
     (.exit 0)))
    (.seq (.block 1 (.reg [⟨[⟨[], 6, (.var 0)⟩], some (.ef [] (.bsl 4 1) [(.o2 (.bput 0 1) (.con (.agg #[(.bool false)])) (.o2 (.bin .eql) (.o2 (.bin .and) (.o2 (.bin .shr) (.var 1) (.var 4)) (.con (.int .i64 1))) (.con (.int .i64 1))))] (some 7))⟩, ⟨[], some (.ef [] (.app 4 1 1) [(.var 6), (.var 7)] (some 8))⟩, ⟨[⟨[], 0, (.var 8)⟩], none⟩]))
    (.reg [⟨[⟨[], 4, (.o2 (.bin .sub) (.var 4) (.con (.int .i64 1)))⟩], none⟩]))))))
  (.seq (.reg [⟨[⟨[], 3, (.var 0)⟩], none⟩])
  .ret))), [(.var 3)]⟩
/-- cratewatch/tag.Parse -/
def F81 : SFun := ⟨1, 35, (.seq (.reg [⟨[], some (.pnew 1 (.con (.agg #[(.int .i64 0), (.int .i64 0), (.int .i64 0), (.int .i64 0), (.int .i64 0), (.int .i64 0)])))⟩, ⟨[⟨[], 2, (.con .nilIface)⟩], none⟩])
  (.seq (.seq (.reg [⟨[⟨[], 9, (.o2 (.bin .neq) (.o1 .slen (.var 0)) (.con (.int .i64 8)))⟩], none⟩])
  (.cond (.var 9)
   (.seq (.reg [⟨[⟨[], 10, (.o1 (.iface 111) (.con (.int .i64 3)))⟩], some (.pst 1 (.upd (.cnt 1) 1 6 (.pad 1) (.con (.agg #[(.int .i64 0), (.int .i64 0), (.int .i64 0), (.int .i64 0), (.int .i64 0), (.int .i64 0)]))))⟩, ⟨[⟨[], 2, (.var 10)⟩], none⟩])
   .ret)
   .skip))
  (.seq (.reg [⟨[], some (.ef [] (.new 178) [(.con (.int .u64 0))] (some 3))⟩, ⟨[], some (.ef [] (.st 1) [(.var 3), (.con (.int .u64 0))] none)⟩])
  (.seq (.seq (.reg [⟨[⟨[], 11, (.o1 .slen (.var 0))⟩, ⟨[], 12, (.con (.int .i64 0))⟩], none⟩])
  (.block 0 (.loop (.seq (.reg [⟨[⟨[], 13, (.o2 (.bin .lss) (.var 12) (.var 11))⟩], none⟩])
    (.seq (.cond (.var 13)
     .skip
     (.exit 0))
    (.seq (.block 1 (.seq (.reg [⟨[⟨[], 4, (.var 12)⟩], none⟩])
     (.dreg (.eff false [] ⟨[], some (.ef [] (.st 1) [(.var 3), (.o2 (.bin .or) (.o2 (.bin .shl) (.o1 .ld (.var 3)) (.con (.int .u64 8))) (.o1 (.conv .u64) (.o2 .sidx (.var 0) (.var 4))))] none)⟩ (.done ⟨[], none⟩)))))
    (.reg [⟨[⟨[], 12, (.o2 (.bin .add) (.var 12) (.con (.int .i64 1)))⟩], none⟩])))))))
  (.seq (.reg [⟨[⟨[], 5, (.o2 .capp (.mkf 106) (.var 3))⟩], none⟩])
  (.seq (.reg [⟨[], some (.ef [] (.new 138) [(.con (.agg #[(.int .i64 0), (.int .i64 0), (.int .i64 0), (.int .i64 0), (.int .i64 0), (.int .i64 0)]))] (some 6))⟩])
  (.seq (.reg [⟨[], some (.ef [] .cal [(.var 5), (.con (.int .i64 24))] (some 14))⟩, ⟨[], some (.ef [] (.st 1) [(.o1 (.fadr 5) (.var 6)), (.var 14)] none)⟩])
  (.seq (.reg [⟨[], some (.ef [] (.call 107) [(.o1 (.conv .i64) (.o2 (.bin .and) (.o2 (.bin .shr) (.o1 .ld (.var 3)) (.con (.int .u64 26))) (.con (.int .u64 7))))] (some 15))⟩, ⟨[⟨[], 16, (.o1 (.ext 0) (.var 15))⟩, ⟨[], 17, (.o1 (.ext 1) (.var 15))⟩], some (.pnew 7 (.con (.agg #[(.int .i64 0), (.int .i64 0), (.int .i64 0), (.int .i64 0)])))⟩, ⟨[], some (.pst 7 (.upd (.cnt 7) 7 4 (.pad 7) (.var 16)))⟩, ⟨[⟨[], 8, (.var 17)⟩], none⟩])
  (.seq (.seq (.reg [⟨[⟨[], 18, (.o1 .not (.var 8))⟩], none⟩])
  (.cond (.var 18)
   (.seq (.reg [⟨[⟨[], 19, (.o1 (.iface 111) (.con (.int .i64 3)))⟩], some (.pst 1 (.upd (.cnt 1) 1 6 (.pad 1) (.con (.agg #[(.int .i64 0), (.int .i64 0), (.int .i64 0), (.int .i64 0), (.int .i64 0), (.int .i64 0)]))))⟩, ⟨[⟨[], 2, (.var 19)⟩], none⟩])
   .ret)
   .skip))
  (.seq (.dreg (.eff true [⟨[], 0, (.o1 .ld (.o1 (.fadr 0) (.pad 7)))⟩] ⟨[⟨[], 21, (.var 5)⟩, ⟨[], 22, (.o1 .ld (.o1 (.fadr 0) (.pad 7)))⟩, ⟨[], 24, (.var 5)⟩, ⟨[], 26, (.var 5)⟩, ⟨[], 28, (.var 5)⟩], some (.ef [] .cal [(.var 5), (.o1 .ld (.o1 (.fadr 2) (.pad 7)))] (some 20))⟩ (.eff false [] ⟨[⟨[], 31, (.o1 (.fadr 4) (.var 6))⟩], some (.ef [] .cal [(.var 21), (.var 22)] (some 23))⟩ (.eff false [] ⟨[], some (.ef [] .cal [(.var 24), (.con (.int .i64 3))] (some 25))⟩ (.eff false [] ⟨[], some (.ef [] .cal [(.var 26), (.con (.int .i64 3))] (some 27))⟩ (.eff false [] ⟨[], some (.ef [] .cal [(.var 28), (.con (.int .i64 8))] (some 29))⟩ (.eff false [] ⟨[⟨[], 30, (.o2 (.bin .sub) (.var 29) (.con (.int .i64 47)))⟩], some (.ef [] (.st 1) [(.var 31), (.var 20)] none)⟩ (.eff false [] ⟨[], some (.ef [] (.st 1) [(.o1 (.fadr 3) (.var 6)), (.var 23)] none)⟩ (.eff false [] ⟨[], some (.ef [] (.st 1) [(.o1 (.fadr 2) (.var 6)), (.var 25)] none)⟩ (.eff false [] ⟨[], some (.ef [] (.st 1) [(.o1 (.fadr 1) (.var 6)), (.var 27)] none)⟩ (.eff false [] ⟨[], some (.ef [] (.st 1) [(.o1 (.fadr 0) (.var 6)), (.var 30)] none)⟩ (.done ⟨[], none⟩))))))))))))
  (.seq (.seq (.reg [⟨[], some (.ef [] (.call 108) [(.o1 (.ldn 6) (.var 6))] (some 32))⟩, ⟨[⟨[], 33, (.o2 (.eqv .iface true) (.var 32) (.con .nilIface))⟩], none⟩])
  (.cond (.var 33)
   (.seq (.reg [⟨[⟨[], 34, (.o1 (.iface 111) (.con (.int .i64 3)))⟩], some (.pst 1 (.upd (.cnt 1) 1 6 (.pad 1) (.con (.agg #[(.int .i64 0), (.int .i64 0), (.int .i64 0), (.int .i64 0), (.int .i64 0), (.int .i64 0)]))))⟩, ⟨[⟨[], 2, (.var 34)⟩], none⟩])
   .ret)
   .skip))
  (.seq (.reg [⟨[], some (.pst 1 (.upd (.cnt 1) 1 6 (.pad 1) (.o1 (.ldn 6) (.var 6))))⟩, ⟨[⟨[], 2, (.con .nilIface)⟩], none⟩])
  .ret)))))))))))), [(.o1 (.ldn 6) (.pad 1)), (.var 2)]⟩
/-- cratewatch/cratewatchref.kind -/
def F83 : SFun := ⟨1, 8, (.seq (.reg [⟨[⟨[], 1, (.con (.int .i64 0))⟩], none⟩])
  (.seq (.reg [⟨[], some (.ef [] (.call 110) [(.var 0)] (some 4))⟩, ⟨[⟨[], 5, (.o1 (.ext 0) (.var 4))⟩, ⟨[], 6, (.o1 (.ext 1) (.var 4))⟩], some (.pnew 2 (.con (.agg #[(.int .i64 0), (.int .i64 0), (.int .i64 0), (.int .i64 0), (.int .i64 0), (.int .i64 0)])))⟩, ⟨[], some (.pst 2 (.upd (.cnt 2) 2 6 (.pad 2) (.var 5)))⟩, ⟨[⟨[], 3, (.var 6)⟩], none⟩])
  (.seq (.seq (.reg [⟨[⟨[], 7, (.o1 .not (.var 3))⟩], none⟩])
  (.cond (.var 7)
   (.seq (.reg [⟨[⟨[], 1, (.con (.int .i64 0))⟩], none⟩])
   .ret)
   .skip))
  (.seq (.reg [⟨[⟨[], 1, (.o1 .ld (.o1 (.fadr 0) (.pad 2)))⟩], none⟩])
  .ret)))), [(.var 1)]⟩
/-- cratewatch/cratewatchref.Decimal -/
def F85 : SFun := ⟨1, 9, (.seq (.reg [⟨[⟨[], 1, (.con (.string .empty))⟩], none⟩])
  (.seq (.reg [⟨[⟨[], 2, (.con (.string .empty))⟩], none⟩])
  (.seq (.reg [⟨[⟨[], 3, (.con (.string .empty))⟩], none⟩])
  (.seq (.seq (.reg [⟨[⟨[], 5, (.o2 (.bin .lss) (.var 0) (.con (.int .i64 0)))⟩], none⟩])
  (.cond (.var 5)
   (.reg [⟨[⟨[], 3, (.con (.string ⟨#[45]⟩))⟩], none⟩])
   .skip))
  (.block 0 (.loop (.block 1 (.seq (.reg [⟨[⟨[], 4, (.o2 (.bin .rem) (.var 0) (.con (.int .i64 10)))⟩], none⟩])
     (.seq (.seq (.reg [⟨[⟨[], 6, (.o2 (.bin .lss) (.var 4) (.con (.int .i64 0)))⟩], none⟩])
     (.cond (.var 6)
      (.reg [⟨[⟨[], 4, (.o1 .neg (.var 4))⟩], none⟩])
      .skip))
     (.seq (.reg [⟨[], some (.ef [] (.bsl 5 1) [(.o2 (.bput 0 1) (.con (.agg #[(.int .u8 0)])) (.o1 (.conv .u8) (.o2 (.bin .add) (.con (.int .i64 48)) (.var 4))))] (some 7))⟩, ⟨[⟨[], 2, (.o2 (.bin .add) (.o1 .b2s (.var 7)) (.var 2))⟩], none⟩])
     (.seq (.reg [⟨[⟨[], 0, (.o2 (.bin .quo) (.var 0) (.con (.int .i64 10)))⟩], none⟩])
     (.seq (.reg [⟨[⟨[], 8, (.o2 (.bin .eql) (.var 0) (.con (.int .i64 0)))⟩], none⟩])
     (.cond (.var 8)
      (.seq (.reg [⟨[⟨[], 1, (.o2 (.bin .add) (.var 3) (.var 2))⟩], none⟩])
      .ret)
      .skip))))))))))))), [(.var 1)]⟩
/-- cratewatch/tag.Parse$1 -/
def F106 : SFun := ⟨2, 4, (.seq (.reg [⟨[⟨[], 2, (.con (.int .i64 0))⟩], none⟩])
  (.seq (.dreg (.done ⟨[⟨[], 3, (.o1 (.conv .i64) (.o2 (.bin .and) (.o1 .ld (.var 1)) (.o2 (.bin .sub) (.o2 (.bin .shl) (.con (.int .u64 1)) (.var 0)) (.con (.int .u64 1)))))⟩], none⟩))
  (.seq (.reg [⟨[], some (.ef [] (.st 1) [(.var 1), (.o2 (.bin .shr) (.o1 .ld (.var 1)) (.var 0))] none)⟩])
  (.seq (.reg [⟨[⟨[], 2, (.var 3)⟩], none⟩])
  .ret)))), [(.var 2)]⟩
/-- cratewatch/tag.parts -/
def F107 : SFun := ⟨1, 6, (.seq (.reg [⟨[], some (.pnew 1 (.con (.agg #[(.int .i64 0), (.int .i64 0), (.int .i64 0), (.int .i64 0)])))⟩, ⟨[⟨[], 2, (.con (.bool false))⟩], none⟩])
  (.seq (.reg [⟨[⟨[], 4, (.o2 (.bput 20 4) (.o2 (.bput 16 4) (.o2 (.bput 12 4) (.o2 (.bput 8 4) (.o2 (.bput 4 4) (.o2 (.bput 0 4) (.con (.agg #[(.int .i64 0), (.int .i64 0), (.int .i64 0), (.int .i64 0), (.int .i64 0), (.int .i64 0), (.int .i64 0), (.int .i64 0), (.int .i64 0), (.int .i64 0), (.int .i64 0), (.int .i64 0), (.int .i64 0), (.int .i64 0), (.int .i64 0), (.int .i64 0), (.int .i64 0), (.int .i64 0), (.int .i64 0), (.int .i64 0), (.int .i64 0), (.int .i64 0), (.int .i64 0), (.int .i64 0)])) (.o2 (.bput 3 1) (.o2 (.bput 2 1) (.o2 (.bput 1 1) (.o2 (.bput 0 1) (.con (.agg #[(.int .i64 0), (.int .i64 0), (.int .i64 0), (.int .i64 0)])) (.con (.int .i64 20))) (.con (.int .i64 6))) (.con (.int .i64 6))) (.con (.int .i64 1)))) (.o2 (.bput 3 1) (.o2 (.bput 2 1) (.o2 (.bput 1 1) (.o2 (.bput 0 1) (.con (.agg #[(.int .i64 0), (.int .i64 0), (.int .i64 0), (.int .i64 0)])) (.con (.int .i64 17))) (.con (.int .i64 5))) (.con (.int .i64 9))) (.con (.int .i64 2)))) (.o2 (.bput 3 1) (.o2 (.bput 2 1) (.o2 (.bput 1 1) (.o2 (.bput 0 1) (.con (.agg #[(.int .i64 0), (.int .i64 0), (.int .i64 0), (.int .i64 0)])) (.con (.int .i64 14))) (.con (.int .i64 4))) (.con (.int .i64 12))) (.con (.int .i64 3)))) (.o2 (.bput 3 1) (.o2 (.bput 2 1) (.o2 (.bput 1 1) (.o2 (.bput 0 1) (.con (.agg #[(.int .i64 0), (.int .i64 0), (.int .i64 0), (.int .i64 0)])) (.con (.int .i64 10))) (.con (.int .i64 3))) (.con (.int .i64 16))) (.con (.int .i64 4)))) (.o2 (.bput 3 1) (.o2 (.bput 2 1) (.o2 (.bput 1 1) (.o2 (.bput 0 1) (.con (.agg #[(.int .i64 0), (.int .i64 0), (.int .i64 0), (.int .i64 0)])) (.con (.int .i64 7))) (.con (.int .i64 2))) (.con (.int .i64 19))) (.con (.int .i64 5)))) (.o2 (.bput 3 1) (.o2 (.bput 2 1) (.o2 (.bput 1 1) (.o2 (.bput 0 1) (.con (.agg #[(.int .i64 0), (.int .i64 0), (.int .i64 0), (.int .i64 0)])) (.con (.int .i64 4))) (.con (.int .i64 1))) (.con (.int .i64 22))) (.con (.int .i64 6))))⟩], some (.ef [] (.new 202) [(.con (.agg #[(.int .i64 0), (.int .i64 0), (.int .i64 0), (.int .i64 0), (.int .i64 0), (.int .i64 0), (.int .i64 0), (.int .i64 0), (.int .i64 0), (.int .i64 0), (.int .i64 0), (.int .i64 0), (.int .i64 0), (.int .i64 0), (.int .i64 0), (.int .i64 0), (.int .i64 0), (.int .i64 0), (.int .i64 0), (.int .i64 0), (.int .i64 0), (.int .i64 0), (.int .i64 0), (.int .i64 0)]))] (some 3))⟩, ⟨[], some (.ef [] (.st 24) [(.var 3), (.var 4)] none)⟩])
  (.seq (.seq (.reg [⟨[⟨[], 5, (.pick (.o2 (.bin .lss) (.var 0) (.con (.int .i64 0))) (.con (.bool true)) (.o2 (.bin .geq) (.var 0) (.con (.int .i64 6))))⟩], none⟩])
  (.cond (.var 5)
   (.seq (.reg [⟨[], some (.pst 1 (.upd (.cnt 1) 1 4 (.pad 1) (.con (.agg #[(.int .i64 0), (.int .i64 0), (.int .i64 0), (.int .i64 0)]))))⟩, ⟨[⟨[], 2, (.con (.bool false))⟩], none⟩])
   .ret)
   .skip))
  (.seq (.reg [⟨[], some (.pst 1 (.upd (.cnt 1) 1 4 (.pad 1) (.o1 (.ldn 4) (.o2 (.aadr 6 4) (.var 3) (.var 0)))))⟩, ⟨[⟨[], 2, (.con (.bool true))⟩], none⟩])
  .ret)))), [(.o1 (.ldn 4) (.pad 1)), (.var 2)]⟩
/-- cratewatch/tag.Check -/
def F108 : SFun := ⟨1, 16, (.seq (.reg [⟨[], some (.pnew 1 (.var 0))⟩, ⟨[⟨[], 2, (.con .nilIface)⟩], none⟩])
  (.seq (.seq (.reg [⟨[⟨[], 5, (.pick (.pick (.pick (.o2 (.bin .lss) (.o1 .ld (.o1 (.fadr 0) (.pad 1))) (.con (.int .i64 1))) (.con (.bool true)) (.o2 (.bin .gtr) (.o1 .ld (.o1 (.fadr 0) (.pad 1))) (.con (.int .i64 3)))) (.con (.bool true)) (.o2 (.bin .lss) (.o1 .ld (.o1 (.fadr 1) (.pad 1))) (.con (.int .i64 0)))) (.con (.bool true)) (.o2 (.bin .gtr) (.o1 .ld (.o1 (.fadr 1) (.pad 1))) (.con (.int .i64 7))))⟩], none⟩])
  (.cond (.var 5)
   (.seq (.reg [⟨[⟨[], 2, (.o1 (.iface 111) (.con (.int .i64 1)))⟩], none⟩])
   .ret)
   .skip))
  (.seq (.reg [⟨[], some (.ef [] (.call 107) [(.o1 .ld (.o1 (.fadr 2) (.pad 1)))] (some 6))⟩, ⟨[⟨[], 7, (.o1 (.ext 0) (.var 6))⟩, ⟨[], 8, (.o1 (.ext 1) (.var 6))⟩], some (.pnew 3 (.con (.agg #[(.int .i64 0), (.int .i64 0), (.int .i64 0), (.int .i64 0)])))⟩, ⟨[], some (.pst 3 (.upd (.cnt 3) 3 4 (.pad 3) (.var 7)))⟩, ⟨[⟨[], 4, (.var 8)⟩], none⟩])
  (.seq (.seq (.dreg (.eff true [⟨[((.pick (.o1 .not (.var 4)) (.con (.bool true)) (.o2 (.bin .lss) (.o1 .ld (.o1 (.fadr 3) (.pad 1))) (.con (.int .i64 0)))), false)], 0, (.o1 .ld (.o1 (.fadr 3) (.pad 1)))⟩] ⟨[⟨[], 9, (.pick (.o1 .not (.var 4)) (.con (.bool true)) (.o2 (.bin .lss) (.o1 .ld (.o1 (.fadr 3) (.pad 1))) (.con (.int .i64 0))))⟩, ⟨[((.pick (.o1 .not (.var 4)) (.con (.bool true)) (.o2 (.bin .lss) (.o1 .ld (.o1 (.fadr 3) (.pad 1))) (.con (.int .i64 0)))), false)], 10, (.o1 .ld (.o1 (.fadr 3) (.pad 1)))⟩], some (.ef [((.pick (.o1 .not (.var 4)) (.con (.bool true)) (.o2 (.bin .lss) (.o1 .ld (.o1 (.fadr 3) (.pad 1))) (.con (.int .i64 0)))), false)] (.call 117) [(.o1 .ld (.o1 (.fadr 1) (.pad 3)))] (some 11))⟩ (.eff true [⟨[((.pick (.pick (.var 9) (.con (.bool true)) (.o2 (.bin .geq) (.var 10) (.var 11))) (.con (.bool true)) (.o2 (.bin .lss) (.o1 .ld (.o1 (.fadr 4) (.pad 1))) (.con (.int .i64 0)))), false)], 0, (.o1 .ld (.o1 (.fadr 4) (.pad 1)))⟩] ⟨[⟨[], 12, (.pick (.pick (.var 9) (.con (.bool true)) (.o2 (.bin .geq) (.var 10) (.var 11))) (.con (.bool true)) (.o2 (.bin .lss) (.o1 .ld (.o1 (.fadr 4) (.pad 1))) (.con (.int .i64 0))))⟩, ⟨[((.pick (.pick (.var 9) (.con (.bool true)) (.o2 (.bin .geq) (.var 10) (.var 11))) (.con (.bool true)) (.o2 (.bin .lss) (.o1 .ld (.o1 (.fadr 4) (.pad 1))) (.con (.int .i64 0)))), false)], 13, (.o1 .ld (.o1 (.fadr 4) (.pad 1)))⟩], some (.ef [((.pick (.pick (.var 9) (.con (.bool true)) (.o2 (.bin .geq) (.var 10) (.var 11))) (.con (.bool true)) (.o2 (.bin .lss) (.o1 .ld (.o1 (.fadr 4) (.pad 1))) (.con (.int .i64 0)))), false)] (.call 117) [(.o1 .ld (.o1 (.fadr 3) (.pad 3)))] (some 14))⟩ (.done ⟨[⟨[], 15, (.pick (.pick (.pick (.var 12) (.con (.bool true)) (.o2 (.bin .geq) (.var 13) (.var 14))) (.con (.bool true)) (.o2 (.bin .lss) (.o1 .ld (.o1 (.fadr 5) (.pad 1))) (.con (.int .i64 0)))) (.con (.bool true)) (.o2 (.bin .geq) (.o1 .ld (.o1 (.fadr 5) (.pad 1))) (.con (.int .i64 16777216))))⟩], none⟩))))
  (.cond (.var 15)
   (.seq (.reg [⟨[⟨[], 2, (.o1 (.iface 111) (.con (.int .i64 1)))⟩], none⟩])
   .ret)
   .skip))
  (.seq (.reg [⟨[⟨[], 2, (.con .nilIface)⟩], none⟩])
  .ret))))), [(.var 2)]⟩
/-- cratewatch/cratewatchref.TagOf -/
def F110 : SFun := ⟨1, 23, (.seq (.reg [⟨[], some (.ef [] (.new 9) [(.var 0)] (some 1))⟩, ⟨[], some (.pnew 2 (.con (.agg #[(.int .i64 0), (.int .i64 0), (.int .i64 0), (.int .i64 0), (.int .i64 0), (.int .i64 0)])))⟩, ⟨[⟨[], 3, (.con (.bool false))⟩], none⟩])
  (.seq (.seq (.reg [⟨[⟨[], 9, (.o2 (.bin .neq) (.o1 .slen (.o1 .ld (.var 1))) (.con (.int .i64 8)))⟩], none⟩])
  (.cond (.var 9)
   (.seq (.reg [⟨[], some (.pst 2 (.upd (.cnt 2) 2 6 (.pad 2) (.con (.agg #[(.int .i64 0), (.int .i64 0), (.int .i64 0), (.int .i64 0), (.int .i64 0), (.int .i64 0)]))))⟩, ⟨[⟨[], 3, (.con (.bool false))⟩], none⟩])
   .ret)
   .skip))
  (.seq (.reg [⟨[], some (.ef [] (.new 3) [(.con (.int .i64 0))] (some 4))⟩, ⟨[], some (.ef [] (.st 1) [(.var 4), (.con (.int .i64 0))] none)⟩])
  (.seq (.reg [⟨[⟨[], 5, (.o2 .capp (.o2 .capp (.mkf 127) (.var 1)) (.var 4))⟩], none⟩])
  (.seq (.reg [⟨[], some (.ef [] .cal [(.var 5), (.con (.int .i64 8))] (some 10))⟩, ⟨[⟨[], 11, (.o2 (.bput 0 1) (.con (.agg #[(.int .i64 0), (.int .i64 0), (.int .i64 0), (.int .i64 0), (.int .i64 0), (.int .i64 0)])) (.o2 (.bin .sub) (.var 10) (.con (.int .i64 47))))⟩], some (.pnew 6 (.con (.agg #[(.int .i64 0), (.int .i64 0), (.int .i64 0), (.int .i64 0), (.int .i64 0), (.int .i64 0)])))⟩, ⟨[], some (.pst 6 (.upd (.cnt 6) 6 6 (.pad 6) (.var 11)))⟩])
  (.seq (.reg [⟨[], some (.ef [] .cal [(.var 5), (.con (.int .i64 3))] (some 12))⟩, ⟨[], some (.pst 6 (.upd (.cnt 6) 6 1 (.o1 (.fadr 1) (.pad 6)) (.var 12)))⟩])
  (.seq (.reg [⟨[], some (.ef [] .cal [(.var 5), (.con (.int .i64 3))] (some 13))⟩, ⟨[], some (.pst 6 (.upd (.cnt 6) 6 1 (.o1 (.fadr 2) (.pad 6)) (.var 13)))⟩])
  (.seq (.reg [⟨[], some (.ef [] (.call 79) [(.o1 .ld (.o1 (.fadr 2) (.pad 6)))] (some 14))⟩, ⟨[⟨[], 15, (.o1 (.ext 0) (.var 14))⟩, ⟨[], 16, (.o1 (.ext 1) (.var 14))⟩], some (.ef [] (.new 162) [(.con (.agg #[(.int .i64 0), (.int .i64 0), (.int .i64 0), (.int .i64 0)]))] (some 7))⟩, ⟨[], some (.ef [] (.st 4) [(.var 7), (.var 15)] none)⟩, ⟨[⟨[], 8, (.var 16)⟩], none⟩])
  (.seq (.seq (.reg [⟨[⟨[], 17, (.o1 .not (.var 8))⟩], none⟩])
  (.cond (.var 17)
   (.seq (.reg [⟨[], some (.pst 2 (.upd (.cnt 2) 2 6 (.pad 2) (.con (.agg #[(.int .i64 0), (.int .i64 0), (.int .i64 0), (.int .i64 0), (.int .i64 0), (.int .i64 0)]))))⟩, ⟨[⟨[], 3, (.con (.bool false))⟩], none⟩])
   .ret)
   .skip))
  (.seq (.reg [⟨[], some (.ef [] .cal [(.var 5), (.o1 .ld (.o2 (.aadr 4 1) (.var 7) (.con (.int .i64 0))))] (some 18))⟩, ⟨[], some (.pst 6 (.upd (.cnt 6) 6 1 (.o1 (.fadr 3) (.pad 6)) (.var 18)))⟩])
  (.seq (.reg [⟨[], some (.ef [] .cal [(.var 5), (.o1 .ld (.o2 (.aadr 4 1) (.var 7) (.con (.int .i64 2))))] (some 19))⟩, ⟨[], some (.pst 6 (.upd (.cnt 6) 6 1 (.o1 (.fadr 4) (.pad 6)) (.var 19)))⟩])
  (.seq (.reg [⟨[], some (.ef [] .cal [(.var 5), (.con (.int .i64 24))] (some 20))⟩, ⟨[], some (.pst 6 (.upd (.cnt 6) 6 1 (.o1 (.fadr 5) (.pad 6)) (.var 20)))⟩])
  (.seq (.seq (.reg [⟨[], some (.ef [] (.call 128) [(.o1 (.ldn 6) (.pad 6))] (some 21))⟩, ⟨[⟨[], 22, (.o2 (.bin .gtr) (.var 21) (.con (.int .i64 0)))⟩], none⟩])
  (.cond (.var 22)
   (.seq (.reg [⟨[], some (.pst 2 (.upd (.cnt 2) 2 6 (.pad 2) (.con (.agg #[(.int .i64 0), (.int .i64 0), (.int .i64 0), (.int .i64 0), (.int .i64 0), (.int .i64 0)]))))⟩, ⟨[⟨[], 3, (.con (.bool false))⟩], none⟩])
   .ret)
   .skip))
  (.seq (.reg [⟨[], some (.pst 2 (.upd (.cnt 2) 2 6 (.pad 2) (.o1 (.ldn 6) (.pad 6))))⟩, ⟨[⟨[], 3, (.con (.bool true))⟩], none⟩])
  .ret)))))))))))))), [(.o1 (.ldn 6) (.pad 2)), (.var 3)]⟩
/-- cratewatch/tag.ten -/
def F117 : SFun := ⟨1, 6, (.seq (.reg [⟨[⟨[], 1, (.con (.int .i64 0))⟩], none⟩])
  (.seq (.reg [⟨[⟨[], 2, (.con (.int .i64 1))⟩], none⟩])
  (.seq (.seq (.reg [⟨[⟨[], 3, (.var 0)⟩, ⟨[], 4, (.con (.int .i64 0))⟩], none⟩])
  (.block 0 (.loop (.seq (.reg [⟨[⟨[], 5, (.o2 (.bin .lss) (.var 4) (.var 3))⟩], none⟩])
    (.seq (.cond (.var 5)
     .skip
     (.exit 0))
    (.seq (.block 1 (.reg [⟨[⟨[], 2, (.o2 (.bin .mul) (.var 2) (.con (.int .i64 10)))⟩], none⟩]))
    (.reg [⟨[⟨[], 4, (.o2 (.bin .add) (.var 4) (.con (.int .i64 1)))⟩], none⟩])))))))
  (.seq (.reg [⟨[⟨[], 1, (.var 2)⟩], none⟩])
  .ret)))), [(.var 1)]⟩
/-- cratewatch/cratewatchref.TagOf$1 -/
def F127 : SFun := ⟨3, 7, (.seq (.reg [⟨[⟨[], 3, (.con (.int .i64 0))⟩], none⟩])
  (.seq (.reg [⟨[⟨[], 4, (.con (.int .i64 0))⟩], none⟩])
  (.seq (.seq (.reg [⟨[⟨[], 5, (.con (.int .i64 0))⟩], none⟩])
  (.block 0 (.loop (.seq (.seq (.reg [⟨[⟨[], 6, (.o2 (.bin .lss) (.var 5) (.var 0))⟩], none⟩])
    (.cond (.var 6)
     .skip
     (.exit 0)))
    (.seq (.block 1 (.seq (.dreg (.done ⟨[⟨[], 4, (.o2 (.bin .add) (.o2 (.bin .mul) (.con (.int .i64 2)) (.var 4)) (.o1 (.conv .i64) (.o2 (.bin .and) (.o2 (.bin .shr) (.o2 .sidx (.o1 .ld (.var 1)) (.o2 (.bin .quo) (.o1 .ld (.var 2)) (.con (.int .i64 8)))) (.o2 (.bin .sub) (.con (.int .i64 7)) (.o2 (.bin .rem) (.o1 .ld (.var 2)) (.con (.int .i64 8))))) (.con (.int .u8 1)))))⟩], none⟩))
     (.reg [⟨[], some (.ef [] (.st 1) [(.var 2), (.o2 (.bin .add) (.o1 .ld (.var 2)) (.con (.int .i64 1)))] none)⟩])))
    (.reg [⟨[⟨[], 5, (.o2 (.bin .add) (.var 5) (.con (.int .i64 1)))⟩], none⟩]))))))
  (.seq (.reg [⟨[⟨[], 3, (.var 4)⟩], none⟩])
  .ret)))), [(.var 3)]⟩
/-- cratewatch/cratewatchref.TagFault -/
def F128 : SFun := ⟨1, 16, (.seq (.reg [⟨[], some (.pnew 1 (.var 0))⟩, ⟨[⟨[], 2, (.con (.int .i64 0))⟩], none⟩])
  (.seq (.reg [⟨[], some (.ef [] (.call 79) [(.o1 .ld (.o1 (.fadr 2) (.pad 1)))] (some 5))⟩, ⟨[⟨[], 6, (.o1 (.ext 0) (.var 5))⟩, ⟨[], 7, (.o1 (.ext 1) (.var 5))⟩], some (.ef [] (.new 162) [(.con (.agg #[(.int .i64 0), (.int .i64 0), (.int .i64 0), (.int .i64 0)]))] (some 3))⟩, ⟨[], some (.ef [] (.st 4) [(.var 3), (.var 6)] none)⟩, ⟨[⟨[], 4, (.var 7)⟩], none⟩])
  (.seq (.seq (.reg [⟨[⟨[], 8, (.pick (.pick (.pick (.pick (.pick (.pick (.o1 .not (.var 4)) (.con (.bool true)) (.o2 (.bin .lss) (.o1 .ld (.o1 (.fadr 0) (.pad 1))) (.con (.int .i64 1)))) (.con (.bool true)) (.o2 (.bin .gtr) (.o1 .ld (.o1 (.fadr 0) (.pad 1))) (.con (.int .i64 3)))) (.con (.bool true)) (.o2 (.bin .lss) (.o1 .ld (.o1 (.fadr 1) (.pad 1))) (.con (.int .i64 0)))) (.con (.bool true)) (.o2 (.bin .gtr) (.o1 .ld (.o1 (.fadr 1) (.pad 1))) (.con (.int .i64 7)))) (.con (.bool true)) (.o2 (.bin .lss) (.o1 .ld (.o1 (.fadr 5) (.pad 1))) (.con (.int .i64 0)))) (.con (.bool true)) (.o2 (.bin .gtr) (.o1 .ld (.o1 (.fadr 5) (.pad 1))) (.con (.int .i64 16777215))))⟩], none⟩])
  (.cond (.var 8)
   (.seq (.reg [⟨[⟨[], 2, (.con (.int .i64 1))⟩], none⟩])
   .ret)
   .skip))
  (.seq (.seq (.dreg (.eff true [⟨[((.o2 (.bin .lss) (.o1 .ld (.o1 (.fadr 3) (.pad 1))) (.con (.int .i64 0))), false)], 0, (.o1 .ld (.o2 (.aadr 4 1) (.var 3) (.con (.int .i64 1))))⟩] ⟨[⟨[], 9, (.o2 (.bin .lss) (.o1 .ld (.o1 (.fadr 3) (.pad 1))) (.con (.int .i64 0)))⟩, ⟨[((.o2 (.bin .lss) (.o1 .ld (.o1 (.fadr 3) (.pad 1))) (.con (.int .i64 0))), false)], 11, (.o1 .ld (.o2 (.aadr 4 1) (.var 3) (.con (.int .i64 1))))⟩], some (.ef [((.o2 (.bin .lss) (.o1 .ld (.o1 (.fadr 3) (.pad 1))) (.con (.int .i64 0))), false)] (.call 85) [(.o1 .ld (.o1 (.fadr 3) (.pad 1)))] (some 10))⟩ (.eff true [⟨[((.pick (.pick (.var 9) (.con (.bool true)) (.o2 (.bin .gtr) (.o1 .slen (.var 10)) (.var 11))) (.con (.bool true)) (.o2 (.bin .lss) (.o1 .ld (.o1 (.fadr 4) (.pad 1))) (.con (.int .i64 0)))), false)], 0, (.o1 .ld (.o2 (.aadr 4 1) (.var 3) (.con (.int .i64 3))))⟩] ⟨[⟨[], 12, (.pick (.pick (.var 9) (.con (.bool true)) (.o2 (.bin .gtr) (.o1 .slen (.var 10)) (.var 11))) (.con (.bool true)) (.o2 (.bin .lss) (.o1 .ld (.o1 (.fadr 4) (.pad 1))) (.con (.int .i64 0))))⟩, ⟨[((.pick (.pick (.var 9) (.con (.bool true)) (.o2 (.bin .gtr) (.o1 .slen (.var 10)) (.var 11))) (.con (.bool true)) (.o2 (.bin .lss) (.o1 .ld (.o1 (.fadr 4) (.pad 1))) (.con (.int .i64 0)))), false)], 14, (.o1 .ld (.o2 (.aadr 4 1) (.var 3) (.con (.int .i64 3))))⟩], some (.ef [((.pick (.pick (.var 9) (.con (.bool true)) (.o2 (.bin .gtr) (.o1 .slen (.var 10)) (.var 11))) (.con (.bool true)) (.o2 (.bin .lss) (.o1 .ld (.o1 (.fadr 4) (.pad 1))) (.con (.int .i64 0)))), false)] (.call 85) [(.o1 .ld (.o1 (.fadr 4) (.pad 1)))] (some 13))⟩ (.done ⟨[⟨[], 15, (.pick (.var 12) (.con (.bool true)) (.o2 (.bin .gtr) (.o1 .slen (.var 13)) (.var 14)))⟩], none⟩))))
  (.cond (.var 15)
   (.seq (.reg [⟨[⟨[], 2, (.con (.int .i64 1))⟩], none⟩])
   .ret)
   .skip))
  (.seq (.reg [⟨[⟨[], 2, (.con (.int .i64 0))⟩], none⟩])
  .ret))))), [(.var 2)]⟩
/-- cratewatch/cratewatchlaw.TagSays -/
def F158 : SFun := ⟨3, 66, (.seq (.reg [⟨[], some (.pnew 3 (.var 0))⟩, ⟨[⟨[], 4, (.con (.bool false))⟩], none⟩])
  (.seq (.reg [⟨[], some (.ef [] (.call 161) [] (some 19))⟩, ⟨[⟨[], 5, (.var 19)⟩], none⟩])
  (.seq (.seq (.reg [⟨[⟨[], 20, (.pick (.pick (.o1 .not (.var 5)) (.con (.bool true)) (.o2 (.bin .gtr) (.o1 .slen (.var 1)) (.con (.int .i64 100)))) (.con (.bool true)) (.o2 (.bin .gtr) (.o1 .slen (.var 2)) (.con (.int .i64 100))))⟩], none⟩])
  (.cond (.var 20)
   (.seq (.reg [⟨[⟨[], 4, (.var 5)⟩], none⟩])
   .ret)
   .skip))
  (.seq (.reg [⟨[], some (.ef [] (.call 128) [(.o1 (.ldn 6) (.pad 3))] (some 21))⟩, ⟨[⟨[], 6, (.var 21)⟩], none⟩])
  (.seq (.reg [⟨[], some (.ef [] (.call 162) [(.o1 (.ldn 6) (.pad 3))] (some 22))⟩, ⟨[⟨[], 7, (.o1 (.ext 0) (.var 22))⟩, ⟨[], 8, (.o1 (.ext 1) (.var 22))⟩], none⟩])
  (.seq (.reg [⟨[], some (.ef [] (.call 163) [(.o1 (.ldn 6) (.pad 3))] (some 23))⟩, ⟨[⟨[], 9, (.o1 (.ext 0) (.var 23))⟩, ⟨[], 10, (.o1 (.ext 1) (.var 23))⟩], none⟩])
  (.seq (.seq (.reg [⟨[], some (.ef [] (.call 108) [(.o1 (.ldn 6) (.pad 3))] (some 24))⟩, ⟨[], some (.ef [] (.call 19) [(.var 24), (.var 6)] (some 25))⟩, ⟨[⟨[], 26, (.o1 .not (.var 25))⟩], some (.ef [((.o1 .not (.var 25)), false)] (.call 19) [(.var 8), (.var 6)] (some 27))⟩, ⟨[⟨[], 28, (.pick (.var 26) (.con (.bool true)) (.o1 .not (.var 27)))⟩], some (.ef [((.pick (.var 26) (.con (.bool true)) (.o1 .not (.var 27))), false)] (.call 19) [(.var 10), (.var 6)] (some 29))⟩, ⟨[⟨[], 30, (.pick (.pick (.var 28) (.con (.bool true)) (.o1 .not (.var 29))) (.con (.bool true)) (.pick (.o2 (.bin .gtr) (.var 6) (.con (.int .i64 0))) (.o2 (.bin .neq) (.o2 (.bin .add) (.var 7) (.var 9)) (.con (.string .empty))) (.con (.bool false))))⟩, ⟨[((.pick (.pick (.var 28) (.con (.bool true)) (.o1 .not (.var 29))) (.con (.bool true)) (.pick (.o2 (.bin .gtr) (.var 6) (.con (.int .i64 0))) (.o2 (.bin .neq) (.o2 (.bin .add) (.var 7) (.var 9)) (.con (.string .empty))) (.con (.bool false)))), false)], 31, (.o2 (.bin .eql) (.var 6) (.con (.int .i64 0)))⟩, ⟨[((.pick (.pick (.var 28) (.con (.bool true)) (.o1 .not (.var 29))) (.con (.bool true)) (.pick (.o2 (.bin .gtr) (.var 6) (.con (.int .i64 0))) (.o2 (.bin .neq) (.o2 (.bin .add) (.var 7) (.var 9)) (.con (.string .empty))) (.con (.bool false)))), false), ((.o2 (.bin .eql) (.var 6) (.con (.int .i64 0))), true)], 32, (.var 7)⟩], some (.ef [((.pick (.pick (.var 28) (.con (.bool true)) (.o1 .not (.var 29))) (.con (.bool true)) (.pick (.o2 (.bin .gtr) (.var 6) (.con (.int .i64 0))) (.o2 (.bin .neq) (.o2 (.bin .add) (.var 7) (.var 9)) (.con (.string .empty))) (.con (.bool false)))), false), ((.o2 (.bin .eql) (.var 6) (.con (.int .i64 0))), true)] (.call 65) [(.o1 (.ldn 6) (.pad 3))] (some 33))⟩, ⟨[⟨[((.var 31), true)], 34, (.o2 (.bin .neq) (.var 32) (.var 33))⟩, ⟨[((.var 31), true), ((.o2 (.bin .neq) (.var 32) (.var 33)), false)], 35, (.var 9)⟩], some (.ef [((.var 31), true), ((.o2 (.bin .neq) (.var 32) (.var 33)), false)] (.call 164) [(.o1 (.ldn 6) (.pad 3))] (some 36))⟩, ⟨[⟨[], 37, (.pick (.var 30) (.con (.bool true)) (.pick (.var 31) (.pick (.var 34) (.con (.bool true)) (.o2 (.bin .neq) (.var 35) (.var 36))) (.con (.bool false))))⟩, ⟨[((.var 31), true)], 63, (.pick (.var 34) (.con (.bool true)) (.o2 (.bin .neq) (.var 35) (.var 36)))⟩, ⟨[((.var 34), false)], 65, (.o2 (.bin .neq) (.var 35) (.var 36))⟩], none⟩])
  (.cond (.var 37)
   (.seq (.reg [⟨[⟨[], 4, (.con (.bool false))⟩], none⟩])
   .ret)
   .skip))
  (.seq (.reg [⟨[], some (.ef [] (.call 81) [(.var 1)] (some 38))⟩, ⟨[⟨[], 39, (.o1 (.ext 0) (.var 38))⟩, ⟨[], 40, (.o1 (.ext 1) (.var 38))⟩], some (.pnew 11 (.con (.agg #[(.int .i64 0), (.int .i64 0), (.int .i64 0), (.int .i64 0), (.int .i64 0), (.int .i64 0)])))⟩, ⟨[], some (.pst 11 (.upd (.cnt 11) 11 6 (.pad 11) (.var 39)))⟩, ⟨[⟨[], 12, (.var 40)⟩], none⟩])
  (.seq (.reg [⟨[], some (.ef [] (.call 110) [(.var 1)] (some 41))⟩, ⟨[⟨[], 42, (.o1 (.ext 0) (.var 41))⟩, ⟨[], 43, (.o1 (.ext 1) (.var 41))⟩], some (.pnew 13 (.con (.agg #[(.int .i64 0), (.int .i64 0), (.int .i64 0), (.int .i64 0), (.int .i64 0), (.int .i64 0)])))⟩, ⟨[], some (.pst 13 (.upd (.cnt 13) 13 6 (.pad 13) (.var 42)))⟩, ⟨[⟨[], 14, (.var 43)⟩], none⟩])
  (.seq (.seq (.reg [⟨[⟨[], 44, (.o2 (.eqv (.flat [.int, .int, .int, .int, .int, .int]) true) (.o1 (.ldn 6) (.pad 11)) (.o1 (.ldn 6) (.pad 13)))⟩, ⟨[((.o2 (.eqv (.flat [.int, .int, .int, .int, .int, .int]) true) (.o1 (.ldn 6) (.pad 11)) (.o1 (.ldn 6) (.pad 13))), false)], 45, (.var 14)⟩], some (.ef [((.o2 (.eqv (.flat [.int, .int, .int, .int, .int, .int]) true) (.o1 (.ldn 6) (.pad 11)) (.o1 (.ldn 6) (.pad 13))), false)] (.call 19) [(.var 12), (.con (.int .i64 0))] (some 46))⟩, ⟨[⟨[], 47, (.pick (.var 44) (.con (.bool true)) (.o2 (.eqv .bool true) (.var 45) (.var 46)))⟩, ⟨[((.pick (.var 44) (.con (.bool true)) (.o2 (.eqv .bool true) (.var 45) (.var 46))), false)], 48, (.o1 .not (.var 14))⟩], some (.ef [((.pick (.var 44) (.con (.bool true)) (.o2 (.eqv .bool true) (.var 45) (.var 46))), false), ((.o1 .not (.var 14)), true)] (.call 19) [(.var 12), (.con (.int .i64 3))] (some 49))⟩, ⟨[⟨[], 50, (.pick (.var 47) (.con (.bool true)) (.pick (.var 48) (.o1 .not (.var 49)) (.con (.bool false))))⟩, ⟨[((.var 48), true)], 64, (.o1 .not (.var 49))⟩], none⟩])
  (.cond (.var 50)
   (.seq (.reg [⟨[⟨[], 4, (.con (.bool false))⟩], none⟩])
   .ret)
   .skip))
  (.seq (.reg [⟨[], some (.ef [] (.call 165) [(.var 2)] (some 51))⟩, ⟨[⟨[], 52, (.o1 (.ext 0) (.var 51))⟩, ⟨[], 53, (.o1 (.ext 1) (.var 51))⟩], some (.pnew 15 (.con (.agg #[(.int .i64 0), (.int .i64 0), (.int .i64 0), (.int .i64 0), (.int .i64 0), (.int .i64 0)])))⟩, ⟨[], some (.pst 15 (.upd (.cnt 15) 15 6 (.pad 15) (.var 52)))⟩, ⟨[⟨[], 16, (.var 53)⟩], none⟩])
  (.seq (.reg [⟨[], some (.ef [] (.call 166) [(.var 2)] (some 54))⟩, ⟨[⟨[], 55, (.o1 (.ext 0) (.var 54))⟩, ⟨[], 56, (.o1 (.ext 1) (.var 54))⟩], some (.pnew 17 (.con (.agg #[(.int .i64 0), (.int .i64 0), (.int .i64 0), (.int .i64 0), (.int .i64 0), (.int .i64 0)])))⟩, ⟨[], some (.pst 17 (.upd (.cnt 17) 17 6 (.pad 17) (.var 55)))⟩, ⟨[⟨[], 18, (.var 56)⟩], none⟩])
  (.seq (.reg [⟨[⟨[], 57, (.o2 (.eqv (.flat [.int, .int, .int, .int, .int, .int]) false) (.o1 (.ldn 6) (.pad 15)) (.o1 (.ldn 6) (.pad 17)))⟩, ⟨[((.o2 (.eqv (.flat [.int, .int, .int, .int, .int, .int]) false) (.o1 (.ldn 6) (.pad 15)) (.o1 (.ldn 6) (.pad 17))), true)], 58, (.var 18)⟩], some (.ef [((.o2 (.eqv (.flat [.int, .int, .int, .int, .int, .int]) false) (.o1 (.ldn 6) (.pad 15)) (.o1 (.ldn 6) (.pad 17))), true)] (.call 19) [(.var 16), (.con (.int .i64 0))] (some 59))⟩, ⟨[⟨[], 60, (.pick (.var 57) (.o2 (.eqv .bool false) (.var 58) (.var 59)) (.con (.bool false)))⟩, ⟨[((.pick (.var 57) (.o2 (.eqv .bool false) (.var 58) (.var 59)) (.con (.bool false))), true)], 61, (.var 18)⟩], some (.ef [((.pick (.var 57) (.o2 (.eqv .bool false) (.var 58) (.var 59)) (.con (.bool false))), true), ((.var 18), false)] (.call 19) [(.var 16), (.con (.int .i64 4))] (some 62))⟩, ⟨[⟨[], 4, (.pick (.var 60) (.pick (.var 61) (.con (.bool true)) (.var 62)) (.con (.bool false)))⟩], none⟩])
  .ret))))))))))))), [(.var 4)]⟩
/-- cratewatch/cratewatchlaw.tags -/
def F161 : SFun := ⟨0, 5, (.seq (.reg [⟨[⟨[], 0, (.con (.bool false))⟩], none⟩])
  (.seq (.reg [⟨[], some (.ef [] (.call 163) [(.o2 (.bput 5 1) (.o2 (.bput 4 1) (.o2 (.bput 3 1) (.o2 (.bput 2 1) (.o2 (.bput 1 1) (.o2 (.bput 0 1) (.con (.agg #[(.int .i64 0), (.int .i64 0), (.int .i64 0), (.int .i64 0), (.int .i64 0), (.int .i64 0)])) (.con (.int .i64 2))) (.con (.int .i64 1))) (.con (.int .i64 3))) (.con (.int .i64 7))) (.con (.int .i64 12))) (.con (.int .i64 5)))] (some 3))⟩, ⟨[⟨[], 1, (.o1 (.ext 0) (.var 3))⟩, ⟨[], 2, (.o1 (.ext 1) (.var 3))⟩], none⟩])
  (.seq (.reg [⟨[], some (.ef [] (.call 19) [(.var 2), (.con (.int .i64 0))] (some 4))⟩, ⟨[⟨[], 0, (.pick (.var 4) (.o2 (.bin .eql) (.var 1) (.con (.string ⟨#[99, 97, 115, 101, 58, 49, 46, 48, 48, 55, 46, 48, 48, 49, 50, 46, 53]⟩))) (.con (.bool false)))⟩], none⟩])
  .ret))), [(.var 0)]⟩
/-- cratewatch/tag.Bytes -/
def F162 : SFun := ⟨1, 24, (.seq (.reg [⟨[], some (.pnew 1 (.var 0))⟩, ⟨[⟨[], 2, (.con (.string .empty))⟩, ⟨[], 3, (.con .nilIface)⟩], none⟩])
  (.seq (.reg [⟨[], some (.ef [] (.call 108) [(.o1 (.ldn 6) (.pad 1))] (some 10))⟩, ⟨[⟨[], 4, (.var 10)⟩], none⟩])
  (.seq (.seq (.reg [⟨[⟨[], 11, (.o2 (.eqv .iface true) (.var 4) (.con .nilIface))⟩], none⟩])
  (.cond (.var 11)
   (.seq (.reg [⟨[⟨[], 2, (.con (.string .empty))⟩, ⟨[], 3, (.var 4)⟩], none⟩])
   .ret)
   .skip))
  (.seq (.reg [⟨[], some (.ef [] (.call 107) [(.o1 .ld (.o1 (.fadr 2) (.pad 1)))] (some 12))⟩, ⟨[⟨[], 13, (.o1 (.ext 0) (.var 12))⟩, ⟨[], 14, (.o1 (.ext 1) (.var 12))⟩], some (.pnew 5 (.con (.agg #[(.int .i64 0), (.int .i64 0), (.int .i64 0), (.int .i64 0)])))⟩, ⟨[], some (.pst 5 (.upd (.cnt 5) 5 4 (.pad 5) (.var 13)))⟩, ⟨[], none⟩])
  (.seq (.reg [⟨[⟨[], 6, (.o1 (.conv .u64) (.o2 (.bin .add) (.con (.int .i64 47)) (.o1 .ld (.o1 (.fadr 0) (.pad 1)))))⟩], none⟩])
  (.seq (.seq (.reg [⟨[], some (.ef [] (.bsl 252 5) [(.o2 (.bput 8 2) (.o2 (.bput 6 2) (.o2 (.bput 4 2) (.o2 (.bput 2 2) (.o2 (.bput 0 2) (.con (.agg #[(.int .i64 0), (.int .i64 0), (.int .i64 0), (.int .i64 0), (.int .i64 0), (.int .i64 0), (.int .i64 0), (.int .i64 0), (.int .i64 0), (.int .i64 0)])) (.o2 (.bput 1 1) (.o2 (.bput 0 1) (.con (.agg #[(.int .i64 0), (.int .i64 0)])) (.con (.int .i64 3))) (.o1 .ld (.o1 (.fadr 1) (.pad 1))))) (.o2 (.bput 1 1) (.o2 (.bput 0 1) (.con (.agg #[(.int .i64 0), (.int .i64 0)])) (.con (.int .i64 3))) (.o1 .ld (.o1 (.fadr 2) (.pad 1))))) (.o2 (.bput 1 1) (.o2 (.bput 0 1) (.con (.agg #[(.int .i64 0), (.int .i64 0)])) (.o1 .ld (.o1 (.fadr 0) (.pad 5)))) (.o1 .ld (.o1 (.fadr 3) (.pad 1))))) (.o2 (.bput 1 1) (.o2 (.bput 0 1) (.con (.agg #[(.int .i64 0), (.int .i64 0)])) (.o1 .ld (.o1 (.fadr 2) (.pad 5)))) (.o1 .ld (.o1 (.fadr 4) (.pad 1))))) (.o2 (.bput 1 1) (.o2 (.bput 0 1) (.con (.agg #[(.int .i64 0), (.int .i64 0)])) (.con (.int .i64 24))) (.o1 .ld (.o1 (.fadr 5) (.pad 1)))))] (some 15))⟩, ⟨[⟨[], 16, (.o1 .llen (.var 15))⟩, ⟨[], 17, (.con (.int .i64 0))⟩], none⟩])
  (.block 0 (.loop (.seq (.reg [⟨[⟨[], 18, (.o2 (.bin .lss) (.var 17) (.var 16))⟩], none⟩])
    (.seq (.cond (.var 18)
     .skip
     (.exit 0))
    (.seq (.block 1 (.seq (.reg [⟨[⟨[], 19, (.o1 (.ldn 2) (.o2 (.iadr 2) (.var 15) (.var 17)))⟩], some (.ef [] (.new 252) [(.con (.agg #[(.int .i64 0), (.int .i64 0)]))] (some 7))⟩, ⟨[], some (.ef [] (.st 2) [(.var 7), (.var 19)] none)⟩])
     (.dreg (.done ⟨[⟨[], 6, (.o2 (.bin .or) (.o2 (.bin .shl) (.var 6) (.o1 .ld (.o2 (.aadr 2 1) (.var 7) (.con (.int .i64 0))))) (.o1 (.conv .u64) (.o1 .ld (.o2 (.aadr 2 1) (.var 7) (.con (.int .i64 1))))))⟩], none⟩))))
    (.reg [⟨[⟨[], 17, (.o2 (.bin .add) (.var 17) (.con (.int .i64 1)))⟩], none⟩])))))))
  (.seq (.reg [⟨[⟨[], 8, (.con (.slice none 0 0))⟩], none⟩])
  (.seq (.seq (.reg [⟨[⟨[], 9, (.con (.int .i64 56))⟩], none⟩])
  (.block 2 (.loop (.seq (.seq (.reg [⟨[⟨[], 20, (.o2 (.bin .geq) (.var 9) (.con (.int .i64 0)))⟩], none⟩])
    (.cond (.var 20)
     .skip
     (.exit 2)))
    (.seq (.block 3 (.reg [⟨[⟨[], 21, (.var 8)⟩], some (.ef [] (.bsl 5 1) [(.o2 (.bput 0 1) (.con (.agg #[(.int .u8 0)])) (.o1 (.conv .u8) (.o2 (.bin .shr) (.var 6) (.var 9))))] (some 22))⟩, ⟨[], some (.ef [] (.app 5 1 1) [(.var 21), (.var 22)] (some 23))⟩, ⟨[⟨[], 8, (.var 23)⟩], none⟩]))
    (.reg [⟨[⟨[], 9, (.o2 (.bin .sub) (.var 9) (.con (.int .i64 8)))⟩], none⟩]))))))
  (.seq (.reg [⟨[⟨[], 2, (.o1 .b2s (.var 8))⟩, ⟨[], 3, (.con .nilIface)⟩], none⟩])
  .ret))))))))), [(.var 2), (.var 3)]⟩
/-- cratewatch/tag.Text -/
def F163 : SFun := ⟨1, 26, (.seq (.reg [⟨[], some (.pnew 1 (.var 0))⟩, ⟨[⟨[], 2, (.con (.string .empty))⟩, ⟨[], 3, (.con .nilIface)⟩], none⟩])
  (.seq (.reg [⟨[], some (.ef [] (.call 108) [(.o1 (.ldn 6) (.pad 1))] (some 6))⟩, ⟨[⟨[], 4, (.var 6)⟩], none⟩])
  (.seq (.seq (.reg [⟨[⟨[], 7, (.o2 (.eqv .iface true) (.var 4) (.con .nilIface))⟩], none⟩])
  (.cond (.var 7)
   (.seq (.reg [⟨[⟨[], 2, (.con (.string .empty))⟩, ⟨[], 3, (.var 4)⟩], none⟩])
   .ret)
   .skip))
  (.seq (.reg [⟨[], some (.ef [] (.call 107) [(.o1 .ld (.o1 (.fadr 2) (.pad 1)))] (some 8))⟩, ⟨[⟨[], 9, (.o1 (.ext 0) (.var 8))⟩, ⟨[], 10, (.o1 (.ext 1) (.var 8))⟩], some (.pnew 5 (.con (.agg #[(.int .i64 0), (.int .i64 0), (.int .i64 0), (.int .i64 0)])))⟩, ⟨[], some (.pst 5 (.upd (.cnt 5) 5 4 (.pad 5) (.var 9)))⟩, ⟨[], none⟩])
  (.seq (.dreg (.eff true [⟨[], 0, (.o1 .ld (.o1 (.fadr 1) (.pad 1)))⟩, ⟨[], 0, (.o1 .ld (.o1 (.fadr 3) (.pad 1)))⟩, ⟨[], 0, (.o1 .ld (.o1 (.fadr 1) (.pad 5)))⟩, ⟨[], 0, (.o1 .ld (.o1 (.fadr 4) (.pad 1)))⟩, ⟨[], 0, (.o1 .ld (.o1 (.fadr 3) (.pad 5)))⟩, ⟨[], 0, (.o1 .ld (.o1 (.fadr 5) (.pad 1)))⟩] ⟨[⟨[], 13, (.o1 .ld (.o1 (.fadr 1) (.pad 1)))⟩, ⟨[], 16, (.o1 .ld (.o1 (.fadr 3) (.pad 1)))⟩, ⟨[], 17, (.o1 .ld (.o1 (.fadr 1) (.pad 5)))⟩, ⟨[], 20, (.o1 .ld (.o1 (.fadr 4) (.pad 1)))⟩, ⟨[], 21, (.o1 .ld (.o1 (.fadr 3) (.pad 5)))⟩, ⟨[], 24, (.o1 .ld (.o1 (.fadr 5) (.pad 1)))⟩], some (.ef [] (.call 177) [(.o1 .ld (.o1 (.fadr 0) (.pad 1)))] (some 11))⟩ (.eff true [] ⟨[⟨[], 12, (.o2 (.bin .add) (.var 11) (.con (.string ⟨#[58]⟩)))⟩], some (.ef [] (.call 176) [(.var 13)] (some 14))⟩ (.eff true [] ⟨[⟨[], 15, (.o2 (.bin .add) (.o2 (.bin .add) (.var 12) (.var 14)) (.con (.string ⟨#[46]⟩)))⟩], some (.ef [] (.call 178) [(.var 16), (.var 17)] (some 18))⟩ (.eff true [] ⟨[⟨[], 19, (.o2 (.bin .add) (.o2 (.bin .add) (.var 15) (.var 18)) (.con (.string ⟨#[46]⟩)))⟩], some (.ef [] (.call 178) [(.var 20), (.var 21)] (some 22))⟩ (.eff false [] ⟨[⟨[], 23, (.o2 (.bin .add) (.o2 (.bin .add) (.var 19) (.var 22)) (.con (.string ⟨#[46]⟩)))⟩], some (.ef [] (.call 176) [(.var 24)] (some 25))⟩ (.done ⟨[⟨[], 2, (.o2 (.bin .add) (.var 23) (.var 25))⟩, ⟨[], 3, (.con .nilIface)⟩], none⟩)))))))
  .ret))))), [(.var 2), (.var 3)]⟩
/-- cratewatch/cratewatchref.TagText -/
def F164 : SFun := ⟨1, 23, (.seq (.reg [⟨[], some (.pnew 1 (.var 0))⟩, ⟨[⟨[], 2, (.con (.string .empty))⟩], none⟩])
  (.seq (.reg [⟨[], some (.ef [] (.call 79) [(.o1 .ld (.o1 (.fadr 2) (.pad 1)))] (some 5))⟩, ⟨[⟨[], 6, (.o1 (.ext 0) (.var 5))⟩, ⟨[], 7, (.o1 (.ext 1) (.var 5))⟩], some (.ef [] (.new 162) [(.con (.agg #[(.int .i64 0), (.int .i64 0), (.int .i64 0), (.int .i64 0)]))] (some 3))⟩, ⟨[], some (.ef [] (.st 4) [(.var 3), (.var 6)] none)⟩, ⟨[], none⟩])
  (.seq (.reg [⟨[⟨[], 4, (.con (.string ⟨#[105, 116, 101, 109]⟩))⟩], none⟩])
  (.seq (.seq (.reg [⟨[⟨[], 8, (.o2 (.bin .eql) (.o1 .ld (.o1 (.fadr 0) (.pad 1))) (.con (.int .i64 2)))⟩], none⟩])
  (.cond (.var 8)
   (.reg [⟨[⟨[], 4, (.con (.string ⟨#[99, 97, 115, 101]⟩))⟩], none⟩])
   .skip))
  (.seq (.seq (.reg [⟨[⟨[], 9, (.o2 (.bin .eql) (.o1 .ld (.o1 (.fadr 0) (.pad 1))) (.con (.int .i64 3)))⟩], none⟩])
  (.cond (.var 9)
   (.reg [⟨[⟨[], 4, (.con (.string ⟨#[112, 97, 108, 108, 101, 116]⟩))⟩], none⟩])
   .skip))
  (.seq (.dreg (.eff true [⟨[], 0, (.o1 .ld (.o1 (.fadr 3) (.pad 1)))⟩, ⟨[], 0, (.o1 .ld (.o2 (.aadr 4 1) (.var 3) (.con (.int .i64 1))))⟩, ⟨[], 0, (.o1 .ld (.o1 (.fadr 4) (.pad 1)))⟩, ⟨[], 0, (.o1 .ld (.o2 (.aadr 4 1) (.var 3) (.con (.int .i64 3))))⟩, ⟨[], 0, (.o1 .ld (.o1 (.fadr 5) (.pad 1)))⟩] ⟨[⟨[], 10, (.o2 (.bin .add) (.var 4) (.con (.string ⟨#[58]⟩)))⟩, ⟨[], 13, (.o1 .ld (.o1 (.fadr 3) (.pad 1)))⟩, ⟨[], 14, (.o1 .ld (.o2 (.aadr 4 1) (.var 3) (.con (.int .i64 1))))⟩, ⟨[], 17, (.o1 .ld (.o1 (.fadr 4) (.pad 1)))⟩, ⟨[], 18, (.o1 .ld (.o2 (.aadr 4 1) (.var 3) (.con (.int .i64 3))))⟩, ⟨[], 21, (.o1 .ld (.o1 (.fadr 5) (.pad 1)))⟩], some (.ef [] (.call 85) [(.o1 .ld (.o1 (.fadr 1) (.pad 1)))] (some 11))⟩ (.eff true [] ⟨[⟨[], 12, (.o2 (.bin .add) (.o2 (.bin .add) (.var 10) (.var 11)) (.con (.string ⟨#[46]⟩)))⟩], some (.ef [] (.call 179) [(.var 13), (.var 14)] (some 15))⟩ (.eff true [] ⟨[⟨[], 16, (.o2 (.bin .add) (.o2 (.bin .add) (.var 12) (.var 15)) (.con (.string ⟨#[46]⟩)))⟩], some (.ef [] (.call 179) [(.var 17), (.var 18)] (some 19))⟩ (.eff false [] ⟨[⟨[], 20, (.o2 (.bin .add) (.o2 (.bin .add) (.var 16) (.var 19)) (.con (.string ⟨#[46]⟩)))⟩], some (.ef [] (.call 85) [(.var 21)] (some 22))⟩ (.done ⟨[⟨[], 2, (.o2 (.bin .add) (.var 20) (.var 22))⟩], none⟩))))))
  .ret)))))), [(.var 2)]⟩
/-- cratewatch/tag.Of -/
def F165 : SFun := ⟨1, 34, (.seq (.reg [⟨[], some (.pnew 1 (.con (.agg #[(.int .i64 0), (.int .i64 0), (.int .i64 0), (.int .i64 0), (.int .i64 0), (.int .i64 0)])))⟩, ⟨[⟨[], 2, (.con .nilIface)⟩], none⟩])
  (.seq (.reg [⟨[], some (.ef [] (.call 180) [(.var 0), (.con (.string ⟨#[58]⟩))] (some 15))⟩, ⟨[⟨[], 3, (.o1 (.ext 0) (.var 15))⟩, ⟨[], 4, (.o1 (.ext 1) (.var 15))⟩, ⟨[], 33, (.o1 (.ext 2) (.var 15))⟩], none⟩])
  (.seq (.reg [⟨[], some (.ef [] (.call 181) [(.var 4), (.con (.string ⟨#[46]⟩))] (some 16))⟩, ⟨[⟨[], 5, (.var 16)⟩], none⟩])
  (.seq (.seq (.reg [⟨[⟨[], 17, (.o2 (.bin .neq) (.o1 .llen (.var 5)) (.con (.int .i64 4)))⟩], none⟩])
  (.cond (.var 17)
   (.seq (.reg [⟨[⟨[], 18, (.o1 (.iface 111) (.con (.int .i64 4)))⟩], some (.pst 1 (.upd (.cnt 1) 1 6 (.pad 1) (.con (.agg #[(.int .i64 0), (.int .i64 0), (.int .i64 0), (.int .i64 0), (.int .i64 0), (.int .i64 0)]))))⟩, ⟨[⟨[], 2, (.var 18)⟩], none⟩])
   .ret)
   .skip))
  (.seq (.reg [⟨[], some (.ef [] (.new 162) [(.con (.agg #[(.int .i64 0), (.int .i64 0), (.int .i64 0), (.int .i64 0)]))] (some 6))⟩])
  (.seq (.seq (.reg [⟨[⟨[], 19, (.var 5)⟩, ⟨[], 20, (.o1 .llen (.var 5))⟩, ⟨[], 21, (.con (.int .i64 0))⟩], none⟩])
  (.block 0 (.loop (.seq (.reg [⟨[⟨[], 22, (.o2 (.bin .lss) (.var 21) (.var 20))⟩], none⟩])
    (.seq (.cond (.var 22)
     .skip
     (.exit 0))
    (.seq (.block 1 (.seq (.reg [⟨[⟨[], 7, (.var 21)⟩, ⟨[], 8, (.o1 .ld (.o2 (.iadr 1) (.var 19) (.var 21)))⟩], none⟩])
     (.seq (.reg [⟨[], some (.ef [] (.call 182) [(.var 8)] (some 23))⟩, ⟨[⟨[], 9, (.o1 (.ext 0) (.var 23))⟩, ⟨[], 10, (.o1 (.ext 1) (.var 23))⟩], none⟩])
     (.seq (.seq (.reg [⟨[⟨[], 24, (.o1 .not (.var 10))⟩], none⟩])
     (.cond (.var 24)
      (.seq (.reg [⟨[⟨[], 25, (.o1 (.iface 111) (.con (.int .i64 4)))⟩], some (.pst 1 (.upd (.cnt 1) 1 6 (.pad 1) (.con (.agg #[(.int .i64 0), (.int .i64 0), (.int .i64 0), (.int .i64 0), (.int .i64 0), (.int .i64 0)]))))⟩, ⟨[⟨[], 2, (.var 25)⟩], none⟩])
      .ret)
      .skip))
     (.reg [⟨[], some (.ef [] (.st 1) [(.o2 (.aadr 4 1) (.var 6) (.var 7)), (.var 9)] none)⟩])))))
    (.reg [⟨[⟨[], 21, (.o2 (.bin .add) (.var 21) (.con (.int .i64 1)))⟩], none⟩])))))))
  (.seq (.dreg (.eff true [⟨[], 0, (.o1 .ld (.o2 (.aadr 4 1) (.var 6) (.con (.int .i64 0))))⟩, ⟨[], 0, (.o1 .ld (.o2 (.aadr 4 1) (.var 6) (.con (.int .i64 1))))⟩, ⟨[], 0, (.o1 .ld (.o2 (.aadr 4 1) (.var 6) (.con (.int .i64 2))))⟩, ⟨[], 0, (.o1 .ld (.o2 (.aadr 4 1) (.var 6) (.con (.int .i64 3))))⟩, ⟨[], 0, (.o1 .ld (.o2 (.iadr 1) (.var 5) (.con (.int .i64 1))))⟩] ⟨[⟨[], 26, (.o2 (.bput 5 1) (.o2 (.bput 4 1) (.o2 (.bput 3 1) (.o2 (.bput 2 1) (.o2 (.bput 1 1) (.con (.agg #[(.int .i64 0), (.int .i64 0), (.int .i64 0), (.int .i64 0), (.int .i64 0), (.int .i64 0)])) (.o1 .ld (.o2 (.aadr 4 1) (.var 6) (.con (.int .i64 0))))) (.o2 (.bin .sub) (.con (.int .i64 6)) (.o1 .slen (.o1 .ld (.o2 (.iadr 1) (.var 5) (.con (.int .i64 1))))))) (.o1 .ld (.o2 (.aadr 4 1) (.var 6) (.con (.int .i64 1))))) (.o1 .ld (.o2 (.aadr 4 1) (.var 6) (.con (.int .i64 2))))) (.o1 .ld (.o2 (.aadr 4 1) (.var 6) (.con (.int .i64 3)))))⟩], some (.ef [] (.new 138) [(.con (.agg #[(.int .i64 0), (.int .i64 0), (.int .i64 0), (.int .i64 0), (.int .i64 0), (.int .i64 0)]))] (some 11))⟩ (.eff false [] ⟨[], some (.ef [] (.st 6) [(.var 11), (.var 26)] none)⟩ (.done ⟨[], none⟩))))
  (.seq (.seq (.reg [⟨[⟨[], 12, (.con (.int .i64 1))⟩], none⟩])
  (.block 2 (.loop (.seq (.seq (.reg [⟨[⟨[], 27, (.o2 (.bin .leq) (.var 12) (.con (.int .i64 3)))⟩], none⟩])
    (.cond (.var 27)
     .skip
     (.exit 2)))
    (.seq (.block 3 (.seq (.reg [⟨[], some (.ef [] (.call 177) [(.var 12)] (some 28))⟩, ⟨[⟨[], 29, (.o2 (.bin .eql) (.var 28) (.var 3))⟩], none⟩])
     (.cond (.var 29)
      (.reg [⟨[], some (.ef [] (.st 1) [(.o1 (.fadr 0) (.var 11)), (.var 12)] none)⟩])
      .skip)))
    (.reg [⟨[⟨[], 12, (.o2 (.bin .add) (.var 12) (.con (.int .i64 1)))⟩], none⟩]))))))
  (.seq (.reg [⟨[], some (.ef [] (.call 163) [(.o1 (.ldn 6) (.var 11))] (some 30))⟩, ⟨[⟨[], 13, (.o1 (.ext 0) (.var 30))⟩, ⟨[], 14, (.o1 (.ext 1) (.var 30))⟩], none⟩])
  (.seq (.seq (.reg [⟨[⟨[], 31, (.pick (.o2 (.eqv .iface true) (.var 14) (.con .nilIface)) (.con (.bool true)) (.o2 (.bin .neq) (.var 13) (.var 0)))⟩], none⟩])
  (.cond (.var 31)
   (.seq (.reg [⟨[⟨[], 32, (.o1 (.iface 111) (.con (.int .i64 4)))⟩], some (.pst 1 (.upd (.cnt 1) 1 6 (.pad 1) (.con (.agg #[(.int .i64 0), (.int .i64 0), (.int .i64 0), (.int .i64 0), (.int .i64 0), (.int .i64 0)]))))⟩, ⟨[⟨[], 2, (.var 32)⟩], none⟩])
   .ret)
   .skip))
  (.seq (.reg [⟨[], some (.pst 1 (.upd (.cnt 1) 1 6 (.pad 1) (.o1 (.ldn 6) (.var 11))))⟩, ⟨[⟨[], 2, (.con .nilIface)⟩], none⟩])
  .ret))))))))))), [(.o1 (.ldn 6) (.pad 1)), (.var 2)]⟩
/-- cratewatch/cratewatchref.TagRead -/
def F166 : SFun := ⟨1, 26, (.seq (.reg [⟨[], some (.pnew 1 (.con (.agg #[(.int .i64 0), (.int .i64 0), (.int .i64 0), (.int .i64 0), (.int .i64 0), (.int .i64 0)])))⟩, ⟨[⟨[], 2, (.con (.bool false))⟩], none⟩])
  (.seq (.reg [⟨[], some (.ef [] (.call 183) [(.var 0), (.con (.int .u8 58))] (some 12))⟩, ⟨[⟨[], 3, (.var 12)⟩], none⟩])
  (.seq (.seq (.reg [⟨[⟨[], 13, (.o2 (.bin .neq) (.o1 .llen (.var 3)) (.con (.int .i64 2)))⟩], none⟩])
  (.cond (.var 13)
   (.seq (.reg [⟨[], some (.pst 1 (.upd (.cnt 1) 1 6 (.pad 1) (.con (.agg #[(.int .i64 0), (.int .i64 0), (.int .i64 0), (.int .i64 0), (.int .i64 0), (.int .i64 0)]))))⟩, ⟨[⟨[], 2, (.con (.bool false))⟩], none⟩])
   .ret)
   .skip))
  (.seq (.reg [⟨[], some (.ef [] (.call 183) [(.o1 .ld (.o2 (.iadr 1) (.var 3) (.con (.int .i64 1)))), (.con (.int .u8 46))] (some 14))⟩, ⟨[⟨[], 4, (.var 14)⟩], none⟩])
  (.seq (.seq (.reg [⟨[⟨[], 15, (.o2 (.bin .neq) (.o1 .llen (.var 4)) (.con (.int .i64 4)))⟩], none⟩])
  (.cond (.var 15)
   (.seq (.reg [⟨[], some (.pst 1 (.upd (.cnt 1) 1 6 (.pad 1) (.con (.agg #[(.int .i64 0), (.int .i64 0), (.int .i64 0), (.int .i64 0), (.int .i64 0), (.int .i64 0)]))))⟩, ⟨[⟨[], 2, (.con (.bool false))⟩], none⟩])
   .ret)
   .skip))
  (.seq (.reg [⟨[], some (.ef [] (.new 162) [(.con (.agg #[(.int .i64 0), (.int .i64 0), (.int .i64 0), (.int .i64 0)]))] (some 5))⟩])
  (.seq (.seq (.reg [⟨[⟨[], 6, (.con (.int .i64 0))⟩], none⟩])
  (.block 0 (.loop (.seq (.seq (.reg [⟨[⟨[], 16, (.o2 (.bin .lss) (.var 6) (.con (.int .i64 4)))⟩], none⟩])
    (.cond (.var 16)
     .skip
     (.exit 0)))
    (.seq (.block 1 (.seq (.reg [⟨[], some (.ef [] (.call 184) [(.o1 .ld (.o2 (.iadr 1) (.var 4) (.var 6)))] (some 17))⟩, ⟨[⟨[], 7, (.o1 (.ext 0) (.var 17))⟩, ⟨[], 8, (.o1 (.ext 1) (.var 17))⟩], none⟩])
     (.seq (.seq (.reg [⟨[⟨[], 18, (.o1 .not (.var 8))⟩], none⟩])
     (.cond (.var 18)
      (.seq (.reg [⟨[], some (.pst 1 (.upd (.cnt 1) 1 6 (.pad 1) (.con (.agg #[(.int .i64 0), (.int .i64 0), (.int .i64 0), (.int .i64 0), (.int .i64 0), (.int .i64 0)]))))⟩, ⟨[⟨[], 2, (.con (.bool false))⟩], none⟩])
      .ret)
      .skip))
     (.reg [⟨[], some (.ef [] (.st 1) [(.o2 (.aadr 4 1) (.var 5) (.var 6)), (.var 7)] none)⟩]))))
    (.reg [⟨[⟨[], 6, (.o2 (.bin .add) (.var 6) (.con (.int .i64 1)))⟩], none⟩]))))))
  (.seq (.seq (.reg [⟨[⟨[], 9, (.con (.int .i64 1))⟩], none⟩])
  (.block 2 (.loop (.seq (.seq (.reg [⟨[⟨[], 19, (.o2 (.bin .leq) (.var 9) (.con (.int .i64 3)))⟩], none⟩])
    (.cond (.var 19)
     .skip
     (.exit 2)))
    (.seq (.block 3 (.seq (.reg [⟨[⟨[], 10, (.con (.int .i64 0))⟩], none⟩])
     (.block 4 (.loop (.seq (.seq (.reg [⟨[⟨[], 20, (.o2 (.bin .lss) (.var 10) (.con (.int .i64 6)))⟩], none⟩])
       (.cond (.var 20)
        .skip
        (.exit 4)))
       (.seq (.block 5 (.seq (.reg [⟨[⟨[], 21, (.o2 (.bput 5 1) (.o2 (.bput 4 1) (.o2 (.bput 3 1) (.o2 (.bput 2 1) (.o2 (.bput 1 1) (.o2 (.bput 0 1) (.con (.agg #[(.int .i64 0), (.int .i64 0), (.int .i64 0), (.int .i64 0), (.int .i64 0), (.int .i64 0)])) (.var 9)) (.o1 .ld (.o2 (.aadr 4 1) (.var 5) (.con (.int .i64 0))))) (.var 10)) (.o1 .ld (.o2 (.aadr 4 1) (.var 5) (.con (.int .i64 1))))) (.o1 .ld (.o2 (.aadr 4 1) (.var 5) (.con (.int .i64 2))))) (.o1 .ld (.o2 (.aadr 4 1) (.var 5) (.con (.int .i64 3)))))⟩], some (.pnew 11 (.con (.agg #[(.int .i64 0), (.int .i64 0), (.int .i64 0), (.int .i64 0), (.int .i64 0), (.int .i64 0)])))⟩, ⟨[], some (.pst 11 (.upd (.cnt 11) 11 6 (.pad 11) (.var 21)))⟩])
        (.seq (.reg [⟨[], some (.ef [] (.call 128) [(.o1 (.ldn 6) (.pad 11))] (some 22))⟩, ⟨[⟨[], 23, (.o2 (.bin .eql) (.var 22) (.con (.int .i64 0)))⟩], some (.ef [((.o2 (.bin .eql) (.var 22) (.con (.int .i64 0))), true)] (.call 164) [(.o1 (.ldn 6) (.pad 11))] (some 24))⟩, ⟨[⟨[], 25, (.pick (.var 23) (.o2 (.bin .eql) (.var 24) (.var 0)) (.con (.bool false)))⟩], none⟩])
        (.cond (.var 25)
         (.seq (.reg [⟨[], some (.pst 1 (.upd (.cnt 1) 1 6 (.pad 1) (.o1 (.ldn 6) (.pad 11))))⟩, ⟨[⟨[], 2, (.con (.bool true))⟩], none⟩])
         .ret)
         .skip))))
       (.reg [⟨[⟨[], 10, (.o2 (.bin .add) (.var 10) (.con (.int .i64 1)))⟩], none⟩])))))))
    (.reg [⟨[⟨[], 9, (.o2 (.bin .add) (.var 9) (.con (.int .i64 1)))⟩], none⟩]))))))
  (.seq (.reg [⟨[], some (.pst 1 (.upd (.cnt 1) 1 6 (.pad 1) (.con (.agg #[(.int .i64 0), (.int .i64 0), (.int .i64 0), (.int .i64 0), (.int .i64 0), (.int .i64 0)]))))⟩, ⟨[⟨[], 2, (.con (.bool false))⟩], none⟩])
  .ret))))))))), [(.o1 (.ldn 6) (.pad 1)), (.var 2)]⟩
/-- cratewatch/tag.name -/
def F177 : SFun := ⟨1, 2, (.seq (.reg [⟨[⟨[], 1, (.con (.string .empty))⟩], none⟩])
  (.seq (.reg [⟨[⟨[], 1, (.o2 (.vidx 3) (.o2 (.bput 2 1) (.o2 (.bput 1 1) (.o2 (.bput 0 1) (.con (.agg #[(.string .empty), (.string .empty), (.string .empty)])) (.con (.string ⟨#[105, 116, 101, 109]⟩))) (.con (.string ⟨#[99, 97, 115, 101]⟩))) (.con (.string ⟨#[112, 97, 108, 108, 101, 116]⟩))) (.o2 (.bin .sub) (.var 0) (.con (.int .i64 1))))⟩], none⟩])
  .ret)), [(.var 1)]⟩
/-- cratewatch/tag.padded -/
def F178 : SFun := ⟨2, 6, (.seq (.reg [⟨[⟨[], 2, (.con (.string .empty))⟩], none⟩])
  (.seq (.reg [⟨[], some (.ef [] (.call 176) [(.var 0)] (some 4))⟩, ⟨[⟨[], 3, (.var 4)⟩], none⟩])
  (.seq (.reg [⟨[], some (.ef [] (.call 193) [(.con (.string ⟨#[48]⟩)), (.o2 .max (.con (.int .i64 0)) (.o2 (.bin .sub) (.var 1) (.o1 .slen (.var 3))))] (some 5))⟩, ⟨[⟨[], 2, (.o2 (.bin .add) (.var 5) (.var 3))⟩], none⟩])
  .ret))), [(.var 2)]⟩
/-- cratewatch/cratewatchref.wide -/
def F179 : SFun := ⟨2, 6, (.seq (.reg [⟨[⟨[], 2, (.con (.string .empty))⟩], none⟩])
  (.seq (.reg [⟨[], some (.ef [] (.call 85) [(.var 0)] (some 4))⟩, ⟨[⟨[], 3, (.var 4)⟩], none⟩])
  (.seq (.block 0 (.loop (.seq (.seq (.reg [⟨[⟨[], 5, (.o2 (.bin .lss) (.o1 .slen (.var 3)) (.var 1))⟩], none⟩])
    (.cond (.var 5)
     .skip
     (.exit 0)))
    (.block 1 (.reg [⟨[⟨[], 3, (.o2 (.bin .add) (.con (.string ⟨#[48]⟩)) (.var 3))⟩], none⟩])))))
  (.seq (.reg [⟨[⟨[], 2, (.var 3)⟩], none⟩])
  .ret)))), [(.var 2)]⟩
/-- cratewatch/tag.number -/
def F182 : SFun := ⟨1, 10, (.seq (.reg [⟨[⟨[], 1, (.con (.int .i64 0))⟩, ⟨[], 2, (.con (.bool false))⟩], none⟩])
  (.seq (.seq (.reg [⟨[⟨[], 5, (.pick (.o2 (.bin .eql) (.var 0) (.con (.string .empty))) (.con (.bool true)) (.o2 (.bin .gtr) (.o1 .slen (.var 0)) (.con (.int .i64 8))))⟩], none⟩])
  (.cond (.var 5)
   (.seq (.reg [⟨[⟨[], 1, (.con (.int .i64 0))⟩, ⟨[], 2, (.con (.bool false))⟩], none⟩])
   .ret)
   .skip))
  (.seq (.reg [⟨[⟨[], 3, (.con (.int .i64 0))⟩], none⟩])
  (.seq (.seq (.reg [⟨[⟨[], 6, (.o1 .slen (.var 0))⟩, ⟨[], 7, (.con (.int .i64 0))⟩], none⟩])
  (.block 0 (.loop (.seq (.reg [⟨[⟨[], 8, (.o2 (.bin .lss) (.var 7) (.var 6))⟩], none⟩])
    (.seq (.cond (.var 8)
     .skip
     (.exit 0))
    (.seq (.block 1 (.seq (.reg [⟨[⟨[], 4, (.var 7)⟩], none⟩])
     (.seq (.seq (.reg [⟨[⟨[], 9, (.pick (.o2 (.bin .lss) (.o2 .sidx (.var 0) (.var 4)) (.con (.int .u8 48))) (.con (.bool true)) (.o2 (.bin .gtr) (.o2 .sidx (.var 0) (.var 4)) (.con (.int .u8 57))))⟩], none⟩])
     (.cond (.var 9)
      (.seq (.reg [⟨[⟨[], 1, (.con (.int .i64 0))⟩, ⟨[], 2, (.con (.bool false))⟩], none⟩])
      .ret)
      .skip))
     (.reg [⟨[⟨[], 3, (.o2 (.bin .add) (.o2 (.bin .mul) (.con (.int .i64 10)) (.var 3)) (.o1 (.conv .i64) (.o2 (.bin .sub) (.o2 .sidx (.var 0) (.var 4)) (.con (.int .u8 48)))))⟩], none⟩]))))
    (.reg [⟨[⟨[], 7, (.o2 (.bin .add) (.var 7) (.con (.int .i64 1)))⟩], none⟩])))))))
  (.seq (.reg [⟨[⟨[], 1, (.var 3)⟩, ⟨[], 2, (.con (.bool true))⟩], none⟩])
  .ret))))), [(.var 1), (.var 2)]⟩
/-- cratewatch/cratewatchref.cut -/
def F183 : SFun := ⟨2, 11, (.seq (.reg [⟨[⟨[], 2, (.con (.slice none 0 0))⟩], none⟩])
  (.seq (.reg [⟨[⟨[], 3, (.con (.slice none 0 0))⟩], none⟩])
  (.seq (.reg [⟨[⟨[], 4, (.con (.int .i64 0))⟩], none⟩])
  (.seq (.seq (.reg [⟨[⟨[], 5, (.con (.int .i64 0))⟩], none⟩])
  (.block 0 (.loop (.seq (.seq (.reg [⟨[⟨[], 6, (.o2 (.bin .leq) (.var 5) (.o1 .slen (.var 0)))⟩], none⟩])
    (.cond (.var 6)
     .skip
     (.exit 0)))
    (.seq (.block 1 (.seq (.reg [⟨[⟨[], 7, (.pick (.o2 (.bin .eql) (.var 5) (.o1 .slen (.var 0))) (.con (.bool true)) (.o2 (.bin .eql) (.o2 .sidx (.var 0) (.var 5)) (.var 1)))⟩], none⟩])
     (.cond (.var 7)
      (.seq (.reg [⟨[⟨[], 8, (.var 3)⟩], some (.ef [] (.bsl 9 1) [(.o2 (.bput 0 1) (.con (.agg #[(.string .empty)])) (.o3 .ssl (.var 0) (.var 4) (.var 5)))] (some 9))⟩, ⟨[], some (.ef [] (.app 9 1 16) [(.var 8), (.var 9)] (some 10))⟩, ⟨[⟨[], 3, (.var 10)⟩], none⟩])
      (.reg [⟨[⟨[], 4, (.o2 (.bin .add) (.var 5) (.con (.int .i64 1)))⟩], none⟩]))
      .skip)))
    (.reg [⟨[⟨[], 5, (.o2 (.bin .add) (.var 5) (.con (.int .i64 1)))⟩], none⟩]))))))
  (.seq (.reg [⟨[⟨[], 2, (.var 3)⟩], none⟩])
  .ret))))), [(.var 2)]⟩
/-- cratewatch/cratewatchref.figures -/
def F184 : SFun := ⟨1, 7, (.seq (.reg [⟨[⟨[], 1, (.con (.int .i64 0))⟩, ⟨[], 2, (.con (.bool false))⟩], none⟩])
  (.seq (.reg [⟨[⟨[], 3, (.con (.int .i64 0))⟩], none⟩])
  (.seq (.seq (.reg [⟨[⟨[], 4, (.con (.int .i64 0))⟩], none⟩])
  (.block 0 (.loop (.seq (.seq (.reg [⟨[⟨[], 5, (.o2 (.bin .lss) (.var 4) (.o1 .slen (.var 0)))⟩], none⟩])
    (.cond (.var 5)
     .skip
     (.exit 0)))
    (.seq (.block 1 (.seq (.seq (.reg [⟨[⟨[], 6, (.pick (.pick (.o2 (.bin .lss) (.o2 .sidx (.var 0) (.var 4)) (.con (.int .u8 48))) (.con (.bool true)) (.o2 (.bin .gtr) (.o2 .sidx (.var 0) (.var 4)) (.con (.int .u8 57)))) (.con (.bool true)) (.o2 (.bin .gtr) (.var 4) (.con (.int .i64 8))))⟩], none⟩])
     (.cond (.var 6)
      (.seq (.reg [⟨[⟨[], 1, (.con (.int .i64 0))⟩, ⟨[], 2, (.con (.bool false))⟩], none⟩])
      .ret)
      .skip))
     (.reg [⟨[⟨[], 3, (.o2 (.bin .add) (.o2 (.bin .mul) (.con (.int .i64 10)) (.var 3)) (.o1 (.conv .i64) (.o2 (.bin .sub) (.o2 .sidx (.var 0) (.var 4)) (.con (.int .u8 48)))))⟩], none⟩])))
    (.reg [⟨[⟨[], 4, (.o2 (.bin .add) (.var 4) (.con (.int .i64 1)))⟩], none⟩]))))))
  (.seq (.reg [⟨[⟨[], 1, (.var 3)⟩, ⟨[], 2, (.o2 (.bin .neq) (.var 0) (.con (.string .empty)))⟩], none⟩])
  .ret)))), [(.var 1), (.var 2)]⟩
/-- cratewatch/cratewatchtop.TopTag -/
def F289 : SFun := ⟨4, 63, (.seq (.reg [⟨[], some (.pnew 4 (.var 0))⟩, ⟨[], some (.pnew 5 (.var 1))⟩, ⟨[⟨[], 6, (.con (.bool false))⟩], none⟩])
  (.seq (.reg [⟨[], some (.ef [] (.call 162) [(.o1 (.ldn 6) (.pad 4))] (some 29))⟩, ⟨[⟨[], 7, (.o1 (.ext 0) (.var 29))⟩, ⟨[], 8, (.o1 (.ext 1) (.var 29))⟩], none⟩])
  (.seq (.reg [⟨[], some (.ef [] (.call 163) [(.o1 (.ldn 6) (.pad 4))] (some 30))⟩, ⟨[⟨[], 9, (.o1 (.ext 0) (.var 30))⟩, ⟨[], 10, (.o1 (.ext 1) (.var 30))⟩], none⟩])
  (.seq (.reg [⟨[], some (.ef [] (.call 81) [(.con (.string ⟨#[48, 0, 0, 0, 0, 0, 0, 7]⟩))] (some 31))⟩, ⟨[⟨[], 32, (.o1 (.ext 0) (.var 31))⟩, ⟨[], 33, (.o1 (.ext 1) (.var 31))⟩], some (.pnew 11 (.con (.agg #[(.int .i64 0), (.int .i64 0), (.int .i64 0), (.int .i64 0), (.int .i64 0), (.int .i64 0)])))⟩, ⟨[], some (.pst 11 (.upd (.cnt 11) 11 6 (.pad 11) (.var 32)))⟩, ⟨[⟨[], 12, (.var 33)⟩], none⟩])
  (.seq (.seq (.reg [⟨[⟨[], 34, (.pick (.o2 (.eqv .iface true) (.var 12) (.con .nilIface)) (.con (.bool true)) (.o2 (.bin .neq) (.o1 .ld (.o1 (.fadr 5) (.pad 11))) (.con (.int .i64 7))))⟩], none⟩])
  (.cond (.var 34)
   (.seq (.reg [⟨[⟨[], 6, (.con (.bool false))⟩], none⟩])
   .ret)
   .skip))
  (.seq (.seq (.dreg (.eff false [] ⟨[⟨[], 35, (.o2 (.eqv .bool true) (.o2 (.eqv .iface false) (.var 8) (.con .nilIface)) (.o2 (.eqv .iface false) (.var 10) (.con .nilIface)))⟩, ⟨[((.o2 (.eqv .bool true) (.o2 (.eqv .iface false) (.var 8) (.con .nilIface)) (.o2 (.eqv .iface false) (.var 10) (.con .nilIface))), false)], 36, (.o2 (.eqv .iface false) (.var 8) (.con .nilIface))⟩], some (.ef [((.o2 (.eqv .bool true) (.o2 (.eqv .iface false) (.var 8) (.con .nilIface)) (.o2 (.eqv .iface false) (.var 10) (.con .nilIface))), false)] (.call 108) [(.o1 (.ldn 6) (.pad 4))] (some 37))⟩ (.done ⟨[⟨[], 38, (.pick (.var 35) (.con (.bool true)) (.o2 (.eqv .bool true) (.var 36) (.o2 (.eqv .iface false) (.var 37) (.con .nilIface))))⟩], none⟩)))
  (.cond (.var 38)
   (.seq (.reg [⟨[⟨[], 6, (.con (.bool false))⟩], none⟩])
   .ret)
   .skip))
  (.seq (.seq (.reg [⟨[⟨[], 39, (.o2 (.eqv .iface false) (.var 8) (.con .nilIface))⟩], none⟩])
  (.cond (.var 39)
   (.seq (.reg [⟨[], some (.ef [] (.call 81) [(.var 7)] (some 40))⟩, ⟨[⟨[], 41, (.o1 (.ext 0) (.var 40))⟩, ⟨[], 42, (.o1 (.ext 1) (.var 40))⟩], some (.pnew 13 (.con (.agg #[(.int .i64 0), (.int .i64 0), (.int .i64 0), (.int .i64 0), (.int .i64 0), (.int .i64 0)])))⟩, ⟨[], some (.pst 13 (.upd (.cnt 13) 13 6 (.pad 13) (.var 41)))⟩, ⟨[⟨[], 14, (.var 42)⟩], none⟩])
   (.seq (.reg [⟨[], some (.ef [] (.call 165) [(.var 9)] (some 43))⟩, ⟨[⟨[], 44, (.o1 (.ext 0) (.var 43))⟩, ⟨[], 45, (.o1 (.ext 1) (.var 43))⟩], some (.pnew 15 (.con (.agg #[(.int .i64 0), (.int .i64 0), (.int .i64 0), (.int .i64 0), (.int .i64 0), (.int .i64 0)])))⟩, ⟨[], some (.pst 15 (.upd (.cnt 15) 15 6 (.pad 15) (.var 44)))⟩, ⟨[⟨[], 16, (.var 45)⟩], none⟩])
   (.seq (.seq (.reg [⟨[⟨[], 46, (.pick (.pick (.pick (.o2 (.eqv .iface true) (.var 14) (.con .nilIface)) (.con (.bool true)) (.o2 (.eqv .iface true) (.var 16) (.con .nilIface))) (.con (.bool true)) (.o2 (.eqv (.flat [.int, .int, .int, .int, .int, .int]) true) (.o1 (.ldn 6) (.pad 13)) (.o1 (.ldn 6) (.pad 4)))) (.con (.bool true)) (.o2 (.eqv (.flat [.int, .int, .int, .int, .int, .int]) true) (.o1 (.ldn 6) (.pad 15)) (.o1 (.ldn 6) (.pad 4))))⟩], none⟩])
   (.cond (.var 46)
    (.seq (.reg [⟨[⟨[], 6, (.con (.bool false))⟩], none⟩])
    .ret)
    .skip))
   (.seq (.reg [⟨[], some (.ef [] (.call 162) [(.o1 (.ldn 6) (.pad 5))] (some 47))⟩, ⟨[⟨[], 17, (.o1 (.ext 0) (.var 47))⟩, ⟨[], 18, (.o1 (.ext 1) (.var 47))⟩], none⟩])
   (.seq (.reg [⟨[], some (.ef [] (.call 163) [(.o1 (.ldn 6) (.pad 5))] (some 48))⟩, ⟨[⟨[], 19, (.o1 (.ext 0) (.var 48))⟩, ⟨[], 20, (.o1 (.ext 1) (.var 48))⟩], none⟩])
   (.seq (.reg [⟨[⟨[], 49, (.pick (.pick (.pick (.o2 (.eqv .iface false) (.var 18) (.con .nilIface)) (.o2 (.eqv .iface false) (.var 20) (.con .nilIface)) (.con (.bool false))) (.o2 (.eqv .bool true) (.o2 (.bin .eql) (.var 17) (.var 7)) (.o2 (.eqv (.flat [.int, .int, .int, .int, .int, .int]) false) (.o1 (.ldn 6) (.pad 5)) (.o1 (.ldn 6) (.pad 4)))) (.con (.bool false))) (.con (.bool true)) (.pick (.pick (.o2 (.eqv .iface false) (.var 18) (.con .nilIface)) (.o2 (.eqv .iface false) (.var 20) (.con .nilIface)) (.con (.bool false))) (.o2 (.eqv .bool true) (.o2 (.bin .eql) (.var 19) (.var 9)) (.o2 (.eqv (.flat [.int, .int, .int, .int, .int, .int]) false) (.o1 (.ldn 6) (.pad 5)) (.o1 (.ldn 6) (.pad 4)))) (.con (.bool false))))⟩], none⟩])
   (.cond (.var 49)
    (.seq (.reg [⟨[⟨[], 6, (.con (.bool false))⟩], none⟩])
    .ret)
    .skip)))))))
   .skip))
  (.seq (.seq (.reg [⟨[⟨[], 50, (.pick (.o2 (.bin .gtr) (.o1 .slen (.var 2)) (.con (.int .i64 100))) (.con (.bool true)) (.o2 (.bin .gtr) (.o1 .slen (.var 3)) (.con (.int .i64 100))))⟩], none⟩])
  (.cond (.var 50)
   (.seq (.reg [⟨[⟨[], 6, (.con (.bool true))⟩], none⟩])
   .ret)
   .skip))
  (.seq (.reg [⟨[], some (.ef [] (.call 81) [(.var 2)] (some 51))⟩, ⟨[⟨[], 52, (.o1 (.ext 0) (.var 51))⟩, ⟨[], 53, (.o1 (.ext 1) (.var 51))⟩], some (.pnew 21 (.con (.agg #[(.int .i64 0), (.int .i64 0), (.int .i64 0), (.int .i64 0), (.int .i64 0), (.int .i64 0)])))⟩, ⟨[], some (.pst 21 (.upd (.cnt 21) 21 6 (.pad 21) (.var 52)))⟩, ⟨[⟨[], 22, (.var 53)⟩], none⟩])
  (.seq (.reg [⟨[], some (.ef [] (.call 165) [(.var 3)] (some 54))⟩, ⟨[⟨[], 55, (.o1 (.ext 0) (.var 54))⟩, ⟨[], 56, (.o1 (.ext 1) (.var 54))⟩], some (.pnew 23 (.con (.agg #[(.int .i64 0), (.int .i64 0), (.int .i64 0), (.int .i64 0), (.int .i64 0), (.int .i64 0)])))⟩, ⟨[], some (.pst 23 (.upd (.cnt 23) 23 6 (.pad 23) (.var 55)))⟩, ⟨[⟨[], 24, (.var 56)⟩], none⟩])
  (.seq (.seq (.reg [⟨[⟨[], 57, (.o2 (.eqv .iface false) (.var 22) (.con .nilIface))⟩], none⟩])
  (.cond (.var 57)
   (.seq (.reg [⟨[], some (.ef [] (.call 162) [(.o1 (.ldn 6) (.pad 21))] (some 58))⟩, ⟨[⟨[], 25, (.o1 (.ext 0) (.var 58))⟩, ⟨[], 26, (.o1 (.ext 1) (.var 58))⟩], none⟩])
   (.seq (.reg [⟨[⟨[], 59, (.pick (.o2 (.eqv .iface true) (.var 26) (.con .nilIface)) (.con (.bool true)) (.o2 (.bin .neq) (.var 25) (.var 2)))⟩], none⟩])
   (.cond (.var 59)
    (.seq (.reg [⟨[⟨[], 6, (.con (.bool false))⟩], none⟩])
    .ret)
    .skip)))
   .skip))
  (.seq (.seq (.reg [⟨[⟨[], 60, (.o2 (.eqv .iface false) (.var 24) (.con .nilIface))⟩], none⟩])
  (.cond (.var 60)
   (.seq (.reg [⟨[], some (.ef [] (.call 163) [(.o1 (.ldn 6) (.pad 23))] (some 61))⟩, ⟨[⟨[], 27, (.o1 (.ext 0) (.var 61))⟩, ⟨[], 28, (.o1 (.ext 1) (.var 61))⟩], none⟩])
   (.seq (.reg [⟨[⟨[], 62, (.pick (.o2 (.eqv .iface true) (.var 28) (.con .nilIface)) (.con (.bool true)) (.o2 (.bin .neq) (.var 27) (.var 3)))⟩], none⟩])
   (.cond (.var 62)
    (.seq (.reg [⟨[⟨[], 6, (.con (.bool false))⟩], none⟩])
    .ret)
    .skip)))
   .skip))
  (.seq (.reg [⟨[⟨[], 6, (.con (.bool true))⟩], none⟩])
  .ret))))))))))))), [(.var 6)]⟩
end Go.Cw
namespace Go.Cw
open Go
def bsum (l : List UInt8) : Nat := l.foldl (fun a b => (a + b.toNat) % 256) 0

theorem bsum_take {l : List UInt8} {i : Nat} (hi : i < l.length) : bsum (l.take (i + 1)) = (bsum (l.take i) + (l.getD i 0).toNat) % 256 := by
  unfold bsum
  rw [List.take_succ_eq_append_getElem hi, List.foldl_append]; simp [List.getD_eq_getElem?_getD, hi]

theorem bsum_lt (l : List UInt8) : bsum l < 256 := by
  rcases List.eq_nil_or_concat l with rfl | ⟨l', x, rfl⟩
  · decide
  · unfold bsum; simp only [List.concat_eq_append, List.foldl_append, List.foldl_cons, List.foldl_nil]; omega

theorem w8 (n : Int) : IntKind.u8.wrap n = n % 256 := by simp [IntKind.wrap, IntKind.bits, IntKind.signed]
theorem inv8' (n : Nat) (h : n < 256) : IntKind.u8.wrap ((BitVec.ofNat 8 255 ^^^ BitVec.ofNat 8 n).toNat : Nat) = 255 - (n : Int) := by
  have h1 : BitVec.ofNat 8 255 = BitVec.allOnes 8 := by decide
  rw [h1, BitVec.allOnes_xor, BitVec.toNat_not, BitVec.toNat_ofNat, w8]
  omega
theorem inv8 {n : Nat} (h : n < 256) : IntKind.u8.wrap ((BitVec.ofInt IntKind.u8.bits (if IntKind.u8.signed = true then -1 else IntKind.u8.max) ^^^ BitVec.ofInt IntKind.u8.bits (n : Int)).toNat) = 255 - (n : Int) := inv8' n h

def S56 : Spec := fun args h K => ∃ l : List UInt8, args = [.string (str l)] ∧ l.length < 2 ^ 62 ∧ K (.int .u8 (255 - (bsum l : Int))) h

theorem F56_ok {N : Num} {Γ : Ctx} [GoodC Γ] : Sat S56 (SF N Γ F56) := by
  rintro _ h K ⟨l, rfl, hsz, hK⟩
  refine i_fun rfl ?_
  simp only [F56, env0, List.map, List.length, List.replicate, List.cons_append, List.nil_append, Nat.reduceSub, Nat.reduceAdd]
  try simp (disch := first | omega | (simp only [PL]; omega)) only [PS, P1, P2, P3, P4, P5, P6, P7, P8, PA, PB, PC, Nat.reduceAdd, Nat.reduceSub, Nat.reduceMul, Nat.reduceLeDiff, Nat.reduceEqDiff, Nat.succ_ne_self, reduceCtorEq, Int.reduceToNat, Int.cast_ofNat_Int, Int.reduceEq, Int.reduceNe, Int.reduceLT, Int.reduceLE]
  refine i_loop (fun i : Nat => [some (.string (str l)), some (.int .u8 0), some (.int .u8 (bsum (l.take i))), none, some (.int .i64 l.length), some (.int .i64 i), none]) (fun i h' => i ≤ l.length ∧ h' = h) (fun i => l.length - i) 0 ?_ ⟨by omega, rfl⟩ ?_
  · try simp only [Pe, and_true, true_and, and_self]; exact ⟨rfl, rfl⟩
  · rintro i h' ⟨hi, rfl⟩
    try simp (disch := first | omega | (simp only [PL]; omega)) only [PS, P1, P2, P3, P4, P5, P6, P7, P8, PA, PB, PC, Nat.reduceAdd, Nat.reduceSub, Nat.reduceMul, Nat.reduceLeDiff, Nat.reduceEqDiff, Nat.succ_ne_self, reduceCtorEq, Int.reduceToNat, Int.cast_ofNat_Int, Int.reduceEq, Int.reduceNe, Int.reduceLT, Int.reduceLE]
    refine i_cond (fun c1 => ?_) (fun c1 => ?_)
    · skip
      try simp (disch := first | omega | (simp only [PL]; omega)) only [PS, P1, P2, P3, P4, P5, P6, P7, P8, PA, PB, PC, Nat.reduceAdd, Nat.reduceSub, Nat.reduceMul, Nat.reduceLeDiff, Nat.reduceEqDiff, Nat.succ_ne_self, reduceCtorEq, Int.reduceToNat, Int.cast_ofNat_Int, Int.reduceEq, Int.reduceNe, Int.reduceLT, Int.reduceLE]
      refine k_loop (i + 1) (by omega) ?_ ⟨by omega, rfl⟩
      try simp only [Pe, and_true, true_and, and_self]
      rw [bsum_take (by omega), w8]; rfl
    · try simp (disch := first | omega | (simp only [PL]; omega)) only [PS, P1, P2, P3, P4, P5, P6, P7, P8, PA, PB, PC, Nat.reduceAdd, Nat.reduceSub, Nat.reduceMul, Nat.reduceLeDiff, Nat.reduceEqDiff, Nat.succ_ne_self, reduceCtorEq, Int.reduceToNat, Int.cast_ofNat_Int, Int.reduceEq, Int.reduceNe, Int.reduceLT, Int.reduceLE]
      have : i = l.length := by omega
      rw [this, List.take_length, inv8 (bsum_lt _)]
      exact hK
end Go.Cw
namespace Go.Cw
open Go

structure Rd where
  ant : Int
  str : Int
  age : Int
  tag : List UInt8
  deriving DecidableEq, Inhabited
def Rd.enc (r : Rd) : List Value := [.int .i64 r.ant, .int .i64 r.str, .int .i64 r.age, .string (Cw.str r.tag)]
structure Fr where
  ty : Int
  reads : List Rd
  warm : Int
  deriving DecidableEq, Inhabited
def FrV (h : Heap) (v : Value) (f : Fr) : Prop := ∃ s, v = .agg #[.int .i64 f.ty, s, .int .i64 f.warm] ∧ Sl Rd.enc h s f.reads

def Rd.bad (r : Rd) : Prop := r.ant < 0 ∨ 3 < r.ant ∨ r.str < 0 ∨ 255 < r.str ∨ r.age < 0 ∨ 255 < r.age ∨ r.tag.length ≠ 8
instance (r : Rd) : Decidable r.bad := by unfold Rd.bad; infer_instance
def Fr.fault (f : Fr) : Nat :=
  if f.ty < 1 ∨ f.ty > 3 then 1
  else if (f.ty ≠ 1 ∧ 0 < f.reads.length) ∨ (f.ty ≠ 3 ∧ f.warm ≠ 0) then 3
  else if f.warm < 0 ∨ f.warm > 255 then 1
  else if 4 < f.reads.length then 2
  else if ∃ r ∈ f.reads, r.bad then 1
  else 0

def S17 : Spec := fun args h K => ∃ v f, args = [v] ∧ FrV h v f ∧ K (.int .i64 f.fault) h

theorem F17_ok {N : Num} {Γ : Ctx} [GoodC Γ] : Sat S17 (SF N Γ F17) := by
  rintro _ h K ⟨_, f, rfl, ⟨s, rfl, hs⟩, hK⟩
  have R := hs.rules 4 (fun _ => rfl) default
  unfold Fr.fault at hK
  refine i_fun rfl ?_
  simp only [F17, env0, List.map, List.length, List.replicate, List.cons_append, List.nil_append, Nat.reduceSub, Nat.reduceAdd]
  try simp (disch := first | omega | (simp only [PL]; omega)) only [PS, P1, P2, P3, P4, P5, P6, P7, P8, PA, PB, PC, Nat.reduceAdd, Nat.reduceSub, Nat.reduceMul, Nat.reduceLeDiff, Nat.reduceEqDiff, Nat.succ_ne_self, reduceCtorEq, Int.reduceToNat, Int.cast_ofNat_Int, Int.reduceEq, Int.reduceNe, Int.reduceLT, Int.reduceLE, R]
  refine i_cond (fun c1 => ?_) (fun c1 => ?_)
  · try simp (disch := first | omega | (simp only [PL]; omega)) only [PS, P1, P2, P3, P4, P5, P6, P7, P8, PA, PB, PC, Nat.reduceAdd, Nat.reduceSub, Nat.reduceMul, Nat.reduceLeDiff, Nat.reduceEqDiff, Nat.succ_ne_self, reduceCtorEq, Int.reduceToNat, Int.cast_ofNat_Int, Int.reduceEq, Int.reduceNe, Int.reduceLT, Int.reduceLE]; simpa [show f.ty < 1 ∨ f.ty > 3 by omega] using hK
  try simp (disch := first | omega | (simp only [PL]; omega)) only [PS, P1, P2, P3, P4, P5, P6, P7, P8, PA, PB, PC, Nat.reduceAdd, Nat.reduceSub, Nat.reduceMul, Nat.reduceLeDiff, Nat.reduceEqDiff, Nat.succ_ne_self, reduceCtorEq, Int.reduceToNat, Int.cast_ofNat_Int, Int.reduceEq, Int.reduceNe, Int.reduceLT, Int.reduceLE, R]
  refine i_cond (fun c2 => ?_) (fun c2 => ?_)
  · try simp (disch := first | omega | (simp only [PL]; omega)) only [PS, P1, P2, P3, P4, P5, P6, P7, P8, PA, PB, PC, Nat.reduceAdd, Nat.reduceSub, Nat.reduceMul, Nat.reduceLeDiff, Nat.reduceEqDiff, Nat.succ_ne_self, reduceCtorEq, Int.reduceToNat, Int.cast_ofNat_Int, Int.reduceEq, Int.reduceNe, Int.reduceLT, Int.reduceLE]; rw [if_neg (by omega), if_pos (by omega)] at hK; exact hK
  try simp (disch := first | omega | (simp only [PL]; omega)) only [PS, P1, P2, P3, P4, P5, P6, P7, P8, PA, PB, PC, Nat.reduceAdd, Nat.reduceSub, Nat.reduceMul, Nat.reduceLeDiff, Nat.reduceEqDiff, Nat.succ_ne_self, reduceCtorEq, Int.reduceToNat, Int.cast_ofNat_Int, Int.reduceEq, Int.reduceNe, Int.reduceLT, Int.reduceLE]
  refine i_cond (fun c3 => ?_) (fun c3 => ?_)
  · try simp (disch := first | omega | (simp only [PL]; omega)) only [PS, P1, P2, P3, P4, P5, P6, P7, P8, PA, PB, PC, Nat.reduceAdd, Nat.reduceSub, Nat.reduceMul, Nat.reduceLeDiff, Nat.reduceEqDiff, Nat.succ_ne_self, reduceCtorEq, Int.reduceToNat, Int.cast_ofNat_Int, Int.reduceEq, Int.reduceNe, Int.reduceLT, Int.reduceLE]; rw [if_neg (by omega), if_neg (by omega), if_pos (by omega)] at hK; exact hK
  try simp (disch := first | omega | (simp only [PL]; omega)) only [PS, P1, P2, P3, P4, P5, P6, P7, P8, PA, PB, PC, Nat.reduceAdd, Nat.reduceSub, Nat.reduceMul, Nat.reduceLeDiff, Nat.reduceEqDiff, Nat.succ_ne_self, reduceCtorEq, Int.reduceToNat, Int.cast_ofNat_Int, Int.reduceEq, Int.reduceNe, Int.reduceLT, Int.reduceLE, R]
  refine i_cond (fun c4 => ?_) (fun c4 => ?_)
  · try simp (disch := first | omega | (simp only [PL]; omega)) only [PS, P1, P2, P3, P4, P5, P6, P7, P8, PA, PB, PC, Nat.reduceAdd, Nat.reduceSub, Nat.reduceMul, Nat.reduceLeDiff, Nat.reduceEqDiff, Nat.succ_ne_self, reduceCtorEq, Int.reduceToNat, Int.cast_ofNat_Int, Int.reduceEq, Int.reduceNe, Int.reduceLT, Int.reduceLE]; rw [if_neg (by omega), if_neg (by omega), if_neg (by omega), if_pos (by omega)] at hK; exact hK
  rw [if_neg (by omega), if_neg (by omega), if_neg (by omega), if_neg (by omega)] at hK
  try simp (disch := first | omega | (simp only [PL]; omega)) only [PS, P1, P2, P3, P4, P5, P6, P7, P8, PA, PB, PC, Nat.reduceAdd, Nat.reduceSub, Nat.reduceMul, Nat.reduceLeDiff, Nat.reduceEqDiff, Nat.succ_ne_self, reduceCtorEq, Int.reduceToNat, Int.cast_ofNat_Int, Int.reduceEq, Int.reduceNe, Int.reduceLT, Int.reduceLE, R]
  refine i_loop (fun i : Nat => [none, some (.agg #[.int .i64 f.ty, s, .int .i64 f.warm]), none, some (.int .i64 i), none, none, none, none, none, none, none, none])
    (fun i h' => i ≤ f.reads.length ∧ h' = h ∧ ∀ j, j < i → ¬ (f.reads.getD j default).bad) (fun i => f.reads.length - i) 0 ?_ ⟨by omega, rfl, by intro j hj; omega⟩ ?_
  · try simp only [Pe, and_true, true_and, and_self]; rfl
  · rintro i h' ⟨hi, rfl, hg⟩
    try simp (disch := first | omega | (simp only [PL]; omega)) only [PS, P1, P2, P3, P4, P5, P6, P7, P8, PA, PB, PC, Nat.reduceAdd, Nat.reduceSub, Nat.reduceMul, Nat.reduceLeDiff, Nat.reduceEqDiff, Nat.succ_ne_self, reduceCtorEq, Int.reduceToNat, Int.cast_ofNat_Int, Int.reduceEq, Int.reduceNe, Int.reduceLT, Int.reduceLE, R]
    refine i_cond (fun c5 => ?_) (fun c5 => ?_)
    · try simp (disch := first | omega | (simp only [PL]; omega)) only [PS, P1, P2, P3, P4, P5, P6, P7, P8, PA, PB, PC, Nat.reduceAdd, Nat.reduceSub, Nat.reduceMul, Nat.reduceLeDiff, Nat.reduceEqDiff, Nat.succ_ne_self, reduceCtorEq, Int.reduceToNat, Int.cast_ofNat_Int, Int.reduceEq, Int.reduceNe, Int.reduceLT, Int.reduceLE, R, Rd.enc]
      refine i_cond (fun c6 => ?_) (fun c6 => ?_)
      · try simp (disch := first | omega | (simp only [PL]; omega)) only [PS, P1, P2, P3, P4, P5, P6, P7, P8, PA, PB, PC, Nat.reduceAdd, Nat.reduceSub, Nat.reduceMul, Nat.reduceLeDiff, Nat.reduceEqDiff, Nat.succ_ne_self, reduceCtorEq, Int.reduceToNat, Int.cast_ofNat_Int, Int.reduceEq, Int.reduceNe, Int.reduceLT, Int.reduceLE]
        rw [if_pos ⟨_, getD_mem default (i := i) (by omega), by simp only [Rd.bad]; omega⟩] at hK
        exact hK
      · try simp (disch := first | omega | (simp only [PL]; omega)) only [PS, P1, P2, P3, P4, P5, P6, P7, P8, PA, PB, PC, Nat.reduceAdd, Nat.reduceSub, Nat.reduceMul, Nat.reduceLeDiff, Nat.reduceEqDiff, Nat.succ_ne_self, reduceCtorEq, Int.reduceToNat, Int.cast_ofNat_Int, Int.reduceEq, Int.reduceNe, Int.reduceLT, Int.reduceLE]
        refine k_loop (i + 1) (by omega) (by try simp only [Pe, and_true, true_and, and_self]) ⟨by omega, rfl, ?_⟩
        intro j hj
        by_cases e : j = i
        · subst e; simp only [Rd.bad]; omega
        · exact hg j (by omega)
    · try simp (disch := first | omega | (simp only [PL]; omega)) only [PS, P1, P2, P3, P4, P5, P6, P7, P8, PA, PB, PC, Nat.reduceAdd, Nat.reduceSub, Nat.reduceMul, Nat.reduceLeDiff, Nat.reduceEqDiff, Nat.succ_ne_self, reduceCtorEq, Int.reduceToNat, Int.cast_ofNat_Int, Int.reduceEq, Int.reduceNe, Int.reduceLT, Int.reduceLE]
      rw [if_neg] at hK
      · exact hK
      · rintro ⟨r, hr, hb⟩
        obtain ⟨j, hj, rfl⟩ := List.getElem_of_mem hr
        refine hg j (by omega) ?_
        simpa [List.getD_eq_getElem?_getD, hj] using hb
end Go.Cw
namespace Go.Cw
open Go

def S19 (N : Num) : Spec := fun args h K => ∃ e f : Nat, args = [errV N e, .int .i64 f] ∧ K (.bool (decide (e = f))) h
theorem F19_ok {N : Num} {Γ : Ctx} [GoodC Γ] : Sat (S19 N) (SF N Γ F19) := by
  rintro _ h K ⟨e, f, rfl, hK⟩
  refine i_fun rfl ?_
  simp only [F19, env0, List.map, List.length, List.replicate, List.cons_append, List.nil_append, Nat.reduceSub, Nat.reduceAdd]
  try simp (disch := first | omega | (simp only [PL]; omega)) only [PS, P1, P2, P3, P4, P5, P6, P7, P8, PA, PB, PC, Nat.reduceAdd, Nat.reduceSub, Nat.reduceMul, Nat.reduceLeDiff, Nat.reduceEqDiff, Nat.succ_ne_self, reduceCtorEq, Int.reduceToNat, Int.cast_ofNat_Int, Int.reduceEq, Int.reduceNe, Int.reduceLT, Int.reduceLE, errV_eq]
  refine i_cond (fun c1 => ?_) (fun c1 => ?_)
  · try simp (disch := first | omega | (simp only [PL]; omega)) only [PS, P1, P2, P3, P4, P5, P6, P7, P8, PA, PB, PC, Nat.reduceAdd, Nat.reduceSub, Nat.reduceMul, Nat.reduceLeDiff, Nat.reduceEqDiff, Nat.succ_ne_self, reduceCtorEq, Int.reduceToNat, Int.cast_ofNat_Int, Int.reduceEq, Int.reduceNe, Int.reduceLT, Int.reduceLE]
    subst c1
    simpa [eq_comm] using hK
  · try simp (disch := first | omega | (simp only [PL]; omega)) only [PS, P1, P2, P3, P4, P5, P6, P7, P8, PA, PB, PC, Nat.reduceAdd, Nat.reduceSub, Nat.reduceMul, Nat.reduceLeDiff, Nat.reduceEqDiff, Nat.succ_ne_self, reduceCtorEq, Int.reduceToNat, Int.cast_ofNat_Int, Int.reduceEq, Int.reduceNe, Int.reduceLT, Int.reduceLE, errV_pos N c1]
    have : ((f : Int) > 0 ∧ (e : Int) = f) ↔ e = f := by omega
    try simp (disch := first | omega | (simp only [PL]; omega)) only [PS, P1, P2, P3, P4, P5, P6, P7, P8, PA, PB, PC, Nat.reduceAdd, Nat.reduceSub, Nat.reduceMul, Nat.reduceLeDiff, Nat.reduceEqDiff, Nat.succ_ne_self, reduceCtorEq, Int.reduceToNat, Int.cast_ofNat_Int, Int.reduceEq, Int.reduceNe, Int.reduceLT, Int.reduceLE]
    rw [← decide_eq_decide.2 this] at hK
    exact hK

def S20 (N : Num) : Spec := fun args h K => ∃ v f, args = [v] ∧ FrV h v f ∧ K (errV N f.fault) h
theorem F20_ok {N : Num} {Γ : Ctx} [GoodC Γ] : Sat (S20 N) (SF N Γ F20) := by
  rintro _ h K ⟨_, f, rfl, ⟨s, rfl, hs⟩, hK⟩
  have R := hs.rules 4 (fun _ => rfl) default
  unfold Fr.fault at hK
  refine i_fun rfl ?_
  simp only [F20, env0, List.map, List.length, List.replicate, List.cons_append, List.nil_append, Nat.reduceSub, Nat.reduceAdd]
  try simp (disch := first | omega | (simp only [PL]; omega)) only [PS, P1, P2, P3, P4, P5, P6, P7, P8, PA, PB, PC, Nat.reduceAdd, Nat.reduceSub, Nat.reduceMul, Nat.reduceLeDiff, Nat.reduceEqDiff, Nat.succ_ne_self, reduceCtorEq, Int.reduceToNat, Int.cast_ofNat_Int, Int.reduceEq, Int.reduceNe, Int.reduceLT, Int.reduceLE, R]
  refine i_cond (fun c1 => ?_) (fun c1 => ?_)
  · try simp (disch := first | omega | (simp only [PL]; omega)) only [PS, P1, P2, P3, P4, P5, P6, P7, P8, PA, PB, PC, Nat.reduceAdd, Nat.reduceSub, Nat.reduceMul, Nat.reduceLeDiff, Nat.reduceEqDiff, Nat.succ_ne_self, reduceCtorEq, Int.reduceToNat, Int.cast_ofNat_Int, Int.reduceEq, Int.reduceNe, Int.reduceLT, Int.reduceLE]; rw [if_pos (by omega)] at hK; exact hK
  try simp (disch := first | omega | (simp only [PL]; omega)) only [PS, P1, P2, P3, P4, P5, P6, P7, P8, PA, PB, PC, Nat.reduceAdd, Nat.reduceSub, Nat.reduceMul, Nat.reduceLeDiff, Nat.reduceEqDiff, Nat.succ_ne_self, reduceCtorEq, Int.reduceToNat, Int.cast_ofNat_Int, Int.reduceEq, Int.reduceNe, Int.reduceLT, Int.reduceLE, R]
  refine i_cond (fun c2 => ?_) (fun c2 => ?_)
  · try simp (disch := first | omega | (simp only [PL]; omega)) only [PS, P1, P2, P3, P4, P5, P6, P7, P8, PA, PB, PC, Nat.reduceAdd, Nat.reduceSub, Nat.reduceMul, Nat.reduceLeDiff, Nat.reduceEqDiff, Nat.succ_ne_self, reduceCtorEq, Int.reduceToNat, Int.cast_ofNat_Int, Int.reduceEq, Int.reduceNe, Int.reduceLT, Int.reduceLE]; rw [if_neg (by omega), if_pos (by omega)] at hK; exact hK
  try simp (disch := first | omega | (simp only [PL]; omega)) only [PS, P1, P2, P3, P4, P5, P6, P7, P8, PA, PB, PC, Nat.reduceAdd, Nat.reduceSub, Nat.reduceMul, Nat.reduceLeDiff, Nat.reduceEqDiff, Nat.succ_ne_self, reduceCtorEq, Int.reduceToNat, Int.cast_ofNat_Int, Int.reduceEq, Int.reduceNe, Int.reduceLT, Int.reduceLE]
  refine i_cond (fun c3 => ?_) (fun c3 => ?_)
  · try simp (disch := first | omega | (simp only [PL]; omega)) only [PS, P1, P2, P3, P4, P5, P6, P7, P8, PA, PB, PC, Nat.reduceAdd, Nat.reduceSub, Nat.reduceMul, Nat.reduceLeDiff, Nat.reduceEqDiff, Nat.succ_ne_self, reduceCtorEq, Int.reduceToNat, Int.cast_ofNat_Int, Int.reduceEq, Int.reduceNe, Int.reduceLT, Int.reduceLE]; rw [if_neg (by omega), if_neg (by omega), if_pos (by omega)] at hK; exact hK
  try simp (disch := first | omega | (simp only [PL]; omega)) only [PS, P1, P2, P3, P4, P5, P6, P7, P8, PA, PB, PC, Nat.reduceAdd, Nat.reduceSub, Nat.reduceMul, Nat.reduceLeDiff, Nat.reduceEqDiff, Nat.succ_ne_self, reduceCtorEq, Int.reduceToNat, Int.cast_ofNat_Int, Int.reduceEq, Int.reduceNe, Int.reduceLT, Int.reduceLE, R]
  refine i_cond (fun c4 => ?_) (fun c4 => ?_)
  · try simp (disch := first | omega | (simp only [PL]; omega)) only [PS, P1, P2, P3, P4, P5, P6, P7, P8, PA, PB, PC, Nat.reduceAdd, Nat.reduceSub, Nat.reduceMul, Nat.reduceLeDiff, Nat.reduceEqDiff, Nat.succ_ne_self, reduceCtorEq, Int.reduceToNat, Int.cast_ofNat_Int, Int.reduceEq, Int.reduceNe, Int.reduceLT, Int.reduceLE]; rw [if_neg (by omega), if_neg (by omega), if_neg (by omega), if_pos (by omega)] at hK; exact hK
  rw [if_neg (by omega), if_neg (by omega), if_neg (by omega), if_neg (by omega)] at hK
  try simp (disch := first | omega | (simp only [PL]; omega)) only [PS, P1, P2, P3, P4, P5, P6, P7, P8, PA, PB, PC, Nat.reduceAdd, Nat.reduceSub, Nat.reduceMul, Nat.reduceLeDiff, Nat.reduceEqDiff, Nat.succ_ne_self, reduceCtorEq, Int.reduceToNat, Int.cast_ofNat_Int, Int.reduceEq, Int.reduceNe, Int.reduceLT, Int.reduceLE, R]
  refine i_loop (fun i : Nat => [none, none, none, none, none, none, none, none, some s, some (.int .i64 f.reads.length), some (.int .i64 i), none, none, none])
    (fun i h' => i ≤ f.reads.length ∧ h' = h ∧ ∀ j, j < i → ¬ (f.reads.getD j default).bad) (fun i => f.reads.length - i) 0 ?_ ⟨by omega, rfl, by intro j hj; omega⟩ ?_
  · try simp only [Pe, and_true, true_and, and_self]; rfl
  · rintro i h' ⟨hi, rfl, hg⟩
    try simp (disch := first | omega | (simp only [PL]; omega)) only [PS, P1, P2, P3, P4, P5, P6, P7, P8, PA, PB, PC, Nat.reduceAdd, Nat.reduceSub, Nat.reduceMul, Nat.reduceLeDiff, Nat.reduceEqDiff, Nat.succ_ne_self, reduceCtorEq, Int.reduceToNat, Int.cast_ofNat_Int, Int.reduceEq, Int.reduceNe, Int.reduceLT, Int.reduceLE, R]
    refine i_cond (fun c5 => ?_) (fun c5 => ?_)
    · try simp (disch := first | omega | (simp only [PL]; omega)) only [PS, P1, P2, P3, P4, P5, P6, P7, P8, PA, PB, PC, Nat.reduceAdd, Nat.reduceSub, Nat.reduceMul, Nat.reduceLeDiff, Nat.reduceEqDiff, Nat.succ_ne_self, reduceCtorEq, Int.reduceToNat, Int.cast_ofNat_Int, Int.reduceEq, Int.reduceNe, Int.reduceLT, Int.reduceLE, R, Rd.enc]
      refine i_cond (fun c6 => ?_) (fun c6 => ?_)
      · try simp (disch := first | omega | (simp only [PL]; omega)) only [PS, P1, P2, P3, P4, P5, P6, P7, P8, PA, PB, PC, Nat.reduceAdd, Nat.reduceSub, Nat.reduceMul, Nat.reduceLeDiff, Nat.reduceEqDiff, Nat.succ_ne_self, reduceCtorEq, Int.reduceToNat, Int.cast_ofNat_Int, Int.reduceEq, Int.reduceNe, Int.reduceLT, Int.reduceLE]
        rw [if_pos ⟨_, getD_mem default (i := i) (by omega), by simp only [Rd.bad]; omega⟩] at hK
        exact hK
      · try simp (disch := first | omega | (simp only [PL]; omega)) only [PS, P1, P2, P3, P4, P5, P6, P7, P8, PA, PB, PC, Nat.reduceAdd, Nat.reduceSub, Nat.reduceMul, Nat.reduceLeDiff, Nat.reduceEqDiff, Nat.succ_ne_self, reduceCtorEq, Int.reduceToNat, Int.cast_ofNat_Int, Int.reduceEq, Int.reduceNe, Int.reduceLT, Int.reduceLE]
        refine k_loop (i + 1) (by omega) (by try simp only [Pe, and_true, true_and, and_self]) ⟨by omega, rfl, ?_⟩
        intro j hj
        by_cases e : j = i
        · subst e; simp only [Rd.bad]; omega
        · exact hg j (by omega)
    · try simp (disch := first | omega | (simp only [PL]; omega)) only [PS, P1, P2, P3, P4, P5, P6, P7, P8, PA, PB, PC, Nat.reduceAdd, Nat.reduceSub, Nat.reduceMul, Nat.reduceLeDiff, Nat.reduceEqDiff, Nat.succ_ne_self, reduceCtorEq, Int.reduceToNat, Int.cast_ofNat_Int, Int.reduceEq, Int.reduceNe, Int.reduceLT, Int.reduceLE]
      rw [if_neg] at hK
      · exact hK
      · rintro ⟨r, hr, hb⟩
        obtain ⟨j, hj, rfl⟩ := List.getElem_of_mem hr
        refine hg j (by omega) ?_
        simpa [List.getD_eq_getElem?_getD, hj] using hb
end Go.Cw
/- Things that are written: what stays. -/
namespace Go.Cw
open Go

/-- the cells of a thing that may be written -/
def objAt (h : Heap) (a : Addr) (cs : List Value) : Prop :=
  a.spot = none ∧ ∃ c t, h a.block = some (.cells c t (0, 0)) ∧ a.off + cs.length ≤ c.size ∧ ∀ i, i < cs.length → c[a.off + i]? = cs[i]?
theorem objAt.le {h h' : Heap} {a : Addr} {cs : List Value} (ho : objAt h a cs) (hl : Heap.le h h') : objAt h' a cs := by
  obtain ⟨h1, c, t, h2, h3, h4⟩ := ho; exact ⟨h1, c, t, hl _ _ h2, h3, h4⟩
theorem objAt.row {h : Heap} {a : Addr} {cs : List Value} (ho : objAt h a cs) : rowAt h a cs := by
  obtain ⟨h1, c, t, h2, h3, h4⟩ := ho; exact ⟨h1, c, t, _, h2, h3, h4⟩
/-- what is read of it -/
theorem objAt.rules {h : Heap} {a : Addr} {cs : List Value} (ho : objAt h a cs) : (∀ j, j < cs.length → h.cell (a.add j) = cs[j]?) ∧ (0 < cs.length → h.cell a = cs[0]?) ∧ h.row a cs.length = some cs.toArray := by
  have hr := ho.row
  refine ⟨fun j hj => by rw [hr.cell hj, List.getElem?_eq_getElem hj], fun hj => ?_, ?_⟩
  · have := hr.cell hj; rw [addr_zero] at this; rw [this, List.getElem?_eq_getElem hj]
  · have := hr.row (i := 0) (n := cs.length) (by omega)
    rw [addr_zero] at this; rw [this]; simp

/-- all that was known stays, but for some cells of one block -/
def keeps (a : Addr) (n : Nat) (h h' : Heap) : Prop :=
  (∀ b o, b ≠ a.block → h b = some o → h' b = some o) ∧
  (∀ c t fz, h a.block = some (.cells c t fz) → ∃ c', h' a.block = some (.cells c' t fz) ∧ c'.size = c.size ∧ ∀ i, i < a.off ∨ a.off + n ≤ i → c'[i]? = c[i]?)
theorem keeps.of_le {a : Addr} {n : Nat} {h h' : Heap} (hl : Heap.le h h') : keeps a n h h' := ⟨fun b o _ hb => hl b o hb, fun c t fz hc => ⟨c, hl _ _ hc, rfl, fun _ _ => rfl⟩⟩
theorem keeps.refl (a : Addr) (n : Nat) (h : Heap) : keeps a n h h := .of_le (Heap.le.refl h)
theorem keeps.trans {a : Addr} {n : Nat} {h h' h'' : Heap} (k1 : keeps a n h h') (k2 : keeps a n h' h'') : keeps a n h h'' := by
  refine ⟨fun b o hb h1 => k2.1 b o hb (k1.1 b o hb h1), fun c t fz hc => ?_⟩
  obtain ⟨c', h1, h2, h3⟩ := k1.2 c t fz hc
  obtain ⟨c'', h4, h5, h6⟩ := k2.2 c' t fz h1
  exact ⟨c'', h4, h5.trans h2, fun i hi => (h6 i hi).trans (h3 i hi)⟩
theorem keeps.le {a : Addr} {n : Nat} {g h h' : Heap} (k : keeps a n h h') (hg : Heap.le g h) (hn : g a.block = none) : Heap.le g h' := by
  intro b o hb
  exact k.1 b o (by intro e; subst e; rw [hn] at hb; cases hb) (hg b o hb)

/-- what is new -/
def fr (h h' : Heap) : Heap := fun b => match h b with
  | none => h' b
  | some _ => none
theorem fr_le (h h' : Heap) : Heap.le (fr h h') h' := by
  intro b o hb; simp only [fr] at hb; split at hb
  · exact hb
  · cases hb
theorem fr_none {h h' : Heap} {b : Nat} {o : Obj} (hb : h b = some o) : fr h h' b = none := by simp [fr, hb]
theorem fr_mono {h h' h'' : Heap} (hl : Heap.le h' h'') : Heap.le (fr h h') (fr h h'') := by
  intro b o hb; simp only [fr] at hb ⊢; split at hb
  · exact hl b o hb
  · cases hb
/-- of more that was there less is new -/
theorem fr_anti {g h h' : Heap} (hl : ∀ b, h b = none → g b = none) : Heap.le (fr h h') (fr g h') := by
  intro b o hb; simp only [fr] at hb ⊢
  split at hb
  · rename_i h1; rw [hl b h1]; exact hb
  · cases hb
theorem le_none {g h : Heap} (hl : Heap.le g h) : ∀ b, h b = none → g b = none := by
  intro b hb
  cases hg : g b with
  | none => rfl
  | some o => rw [hl b o hg] at hb; cases hb
theorem keeps_none {a : Addr} {n : Nat} {h h' : Heap} (k : keeps a n h h') {o : Obj} (ha : h' a.block = some o) : True := trivial

def join (g g' : Heap) : Heap := fun b => (g b).orElse fun _ => g' b
theorem join_l (g g' : Heap) : Heap.le g (join g g') := by intro b o hb; simp [join, hb]
theorem join_r {g g' h : Heap} (h1 : Heap.le g h) (h2 : Heap.le g' h) : Heap.le g' (join g g') := by
  intro b o hb
  simp only [join]
  cases hg : g b with
  | none => simpa using hb
  | some o' => have a1 := h1 b o' hg; have a2 := h2 b o hb; rw [a1] at a2; simpa using a2
theorem join_le {g g' h : Heap} (h1 : Heap.le g h) (h2 : Heap.le g' h) : Heap.le (join g g') h := by
  intro b o hb
  simp only [join] at hb
  cases hg : g b with
  | none => rw [hg] at hb; exact h2 b o (by simpa using hb)
  | some o' => rw [hg] at hb; simp at hb; subst hb; exact h1 b _ hg
theorem join_none {g g' : Heap} {b : Nat} (h1 : g b = none) (h2 : g' b = none) : join g g' b = none := by simp [join, h1, h2]

theorem OwnS.grow {α : Type} {enc : α → List Value} {sz : Nat} {g h h1 : Heap} {v : Value} {l : List α} (ho : OwnS enc sz g h v l) (hl : Heap.le h h1) : OwnS enc sz (join g (fr h h1)) h1 v l := by
  obtain ⟨a0, a, cap, h2, h3, h4, h5⟩ := ho
  refine ⟨join_le (a0.trans hl) (fr_le _ _), a, cap, h2, h3, h4, h5.imp id ?_⟩
  rintro ⟨b, c, t, a1, a2, a3, a4⟩
  exact ⟨b, c, t, a1, join_none a2 (fr_none a3), hl _ _ a3, a4⟩

theorem Heap.set_ne {h : Heap} {b b' : Nat} {o : Obj} (e : b' ≠ b) : (h.set b o) b' = h b' := by simp [Heap.set, e]
theorem Heap.set_eq {h : Heap} {b : Nat} {o : Obj} : (h.set b o) b = some o := by simp [Heap.set]

theorem OwnS.set {α : Type} {enc : α → List Value} {sz : Nat} {g h : Heap} {v : Value} {l : List α} (ho : OwnS enc sz g h v l) {b : Nat} {o o' : Obj} (hb : g b = some o) : OwnS enc sz (g.set b o') (h.set b o') v l := by
  obtain ⟨a0, a, cap, h2, h3, h4, h5⟩ := ho
  refine ⟨?_, a, cap, h2, h3, h4, h5.imp id ?_⟩
  · intro x y hx
    by_cases e : x = b
    · subst e; rw [Heap.set_eq] at hx ⊢; exact hx
    · rw [Heap.set_ne e] at hx ⊢; exact a0 x y hx
  · rintro ⟨b', c, t, a1, a2, a3, a4⟩
    have e : b' ≠ b := by intro e; subst e; rw [hb] at a2; cases a2
    exact ⟨b', c, t, a1, by rw [Heap.set_ne e]; exact a2, by rw [Heap.set_ne e]; exact a3, a4⟩

/-- cells are written -/
theorem i_st {N : Num} {Γ : Ctx} {h : Heap} {a : Addr} {cs : List Value} (ho : objAt h a cs) (j n : Nat) {x : Value} (hx : x.cells.size = n) (h1 : x.cells.toList.all one = true) (hn : 0 < n) (hj : j + n ≤ cs.length) {K : Value → Heap → Prop}
    (hK : ∀ o, (∀ g : Heap, g a.block = h a.block → objAt (g.set a.block o) a (cs.take j ++ x.cells.toList ++ cs.drop (j + n))) → (∀ g : Heap, g a.block = h a.block → keeps a cs.length g (g.set a.block o)) → K undef (h.set a.block o)) :
    efW N Γ (.st n) [.pointer (some (a.add j)), x] h K := by
  obtain ⟨hs, c, t, h2, h3, h4⟩ := ho
  have hlen : x.cells.toList.length = n := by simp [hx]
  have hpg := fun i => putL_get c x.cells.toList (a.off + j) i (by omega)
  refine ⟨hx, h.set a.block (.cells (putL c (a.off + j) x.cells.toList) t (0, 0)), ?_, ?_⟩
  · rw [addr_add' a hs]
    cases hl : x.cells.toList with
    | nil => rw [hl] at hlen; simp at hlen; omega
    | cons y ys =>
      have h5 : a.off + j + (y :: ys).length ≤ c.size := by rw [← hl]; omega
      have h6 : (y :: ys).all one = true := by rw [← hl]; exact h1
      simp only [putRow, Option.isSome_none, Bool.false_eq_true, if_false, h2]
      rw [if_pos ⟨h5, h6⟩]
  · refine hK _ (fun g hg => ⟨hs, _, t, Heap.set_eq, ?_, ?_⟩) (fun g hg => ⟨?_, ?_⟩)
    · rw [(hpg 0).1]; simp only [List.length_append, List.length_take, List.length_drop, hlen]; omega
    · intro i hi
      simp only [List.length_append, List.length_take, List.length_drop, hlen] at hi
      rw [(hpg _).2]
      by_cases e : a.off + j ≤ a.off + i ∧ a.off + i < a.off + j + x.cells.toList.length
      · rw [if_pos e, List.append_assoc, List.getElem?_append_right (by simp; omega), List.getElem?_append_left (by simp only [List.length_take]; omega)]
        congr 1; simp only [List.length_take]; omega
      · rw [if_neg e, h4 i (by omega)]
        by_cases e2 : i < j
        · rw [List.append_assoc, List.getElem?_append_left (by simp only [List.length_take]; omega), List.getElem?_take_of_lt e2]
        · rw [List.getElem?_append_right (by simp only [List.length_append, List.length_take, hlen]; omega)]
          rw [List.getElem?_drop]
          congr 1; simp only [List.length_append, List.length_take, hlen]; omega
    · intro b o hb h5; rw [Heap.set_ne hb]; exact h5
    · intro c' t' fz h5
      rw [hg, h2] at h5
      cases h5
      refine ⟨_, Heap.set_eq, (hpg 0).1, fun i hi => ?_⟩
      rw [(hpg i).2, if_neg (by omega)]

/-- a new thing -/
theorem i_newO {N : Num} {Γ : Ctx} {h : Heap} {t : Nat} {x : Value} {K : Value → Heap → Prop}
    (hx : ∀ b h', Heap.le h h' → h b = none → objAt (fr h h') ⟨b, 0, none⟩ x.cells.toList → K (.pointer (some ⟨b, 0, none⟩)) h') : efW N Γ (.new t) [x] h K := by
  intro b hb
  refine hx b _ ((Heap.le.refl h).new hb _) hb ⟨rfl, x.cells, N.tid t, ?_, by simp, fun i hi => by simp⟩
  simp [fr, hb, Heap.set]
end Go.Cw
/- Maps, and what a step leaves as it was. -/
namespace Go.Cw
open Go

def disj (f g : Heap) : Prop := ∀ b, f b ≠ none → g b = none
theorem disj.symm {f g : Heap} (h : disj f g) : disj g f := by
  intro b hb
  cases hf : f b with
  | none => rfl
  | some o => exact absurd (h b (by rw [hf]; simp)) hb

/-- from what is owned in a heap to what is owned behind a step: all else stays -/
structure Step (g h g' h' : Heap) : Prop where
  le : Heap.le g' h'
  frame : ∀ b o, h b = some o → g b = none → h' b = some o
  fresh : ∀ b, h b ≠ none → g b = none → g' b = none
theorem Step.refl {g h : Heap} (hl : Heap.le g h) : Step g h g h := ⟨hl, fun _ _ h _ => h, fun _ _ h => h⟩
theorem Step.trans {g h g' h' g'' h'' : Heap} (a : Step g h g' h') (b : Step g' h' g'' h'') : Step g h g'' h'' := by
  refine ⟨b.le, fun x o h1 h2 => ?_, fun x h1 h2 => ?_⟩
  · exact b.frame x o (a.frame x o h1 h2) (a.fresh x (by rw [h1]; simp) h2)
  · refine b.fresh x ?_ (a.fresh x h1 h2)
    cases hx : h x with
    | none => exact absurd hx h1
    | some o => rw [a.frame x o hx h2]; simp
/-- what is not owned stays, and stays apart -/
theorem Step.keep {g h g' h' f : Heap} (a : Step g h g' h') (hf : Heap.le f h) (hd : disj f g) : Heap.le f h' ∧ disj f g' := by
  refine ⟨fun b o hb => a.frame b o (hf b o hb) (hd b (by rw [hb]; simp)), fun b hb => ?_⟩
  cases hfb : f b with
  | none => exact absurd hfb hb
  | some o => exact a.fresh b (by rw [hf b o hfb]; simp) (hd b hb)
theorem Step.alloc {g h h' : Heap} (hg : Heap.le g h) (hl : Heap.le h h') : Step g h (join g (fr h h')) h' := by
  refine ⟨join_le (hg.trans hl) (fr_le _ _), fun b o h1 _ => hl b o h1, fun b h1 h2 => ?_⟩
  cases hb : h b with
  | none => exact absurd hb h1
  | some o => exact join_none h2 (fr_none hb)
theorem Step.more {g h h' : Heap} (hg : Heap.le g h) (hl : Heap.le h h') : Step g h g h' := ⟨hg.trans hl, fun b o h1 _ => hl b o h1, fun _ _ h => h⟩
theorem Step.set {g h : Heap} (hg : Heap.le g h) {b : Nat} (hb : g b ≠ none) (o : Obj) : Step g h (g.set b o) (h.set b o) := by
  refine ⟨?_, fun x y h1 h2 => ?_, fun x h1 h2 => ?_⟩
  · intro x y hx
    by_cases e : x = b
    · subst e; rw [Heap.set_eq] at hx ⊢; exact hx
    · rw [Heap.set_ne e] at hx ⊢; exact hg x y hx
  · have e : x ≠ b := by intro e; subst e; exact hb h2
    rw [Heap.set_ne e]; exact h1
  · have e : x ≠ b := by intro e; subst e; exact hb h2
    rw [Heap.set_ne e]; exact h2
/-- a step of a part -/
theorem Step.part {g h g' h' f : Heap} (a : Step g h g' h') (hf : Heap.le f h) (hd : disj f g) : Step (join f g) h (join f g') h' := by
  obtain ⟨k1, k2⟩ := a.keep hf hd
  refine ⟨join_le k1 a.le, fun b o h1 h2 => ?_, fun b h1 h2 => ?_⟩
  · have hg : g b = none := by
      simp only [join] at h2
      cases hfb : f b with
      | none => rw [hfb] at h2; simpa using h2
      | some x => rw [hfb] at h2; simp at h2
    exact a.frame b o h1 hg
  · have hfb : f b = none := by
      cases hfb : f b with
      | none => rfl
      | some x => simp only [join, hfb] at h2; simp at h2
    have hg : g b = none := by simp only [join, hfb] at h2; simpa using h2
    exact join_none hfb (a.fresh b h1 hg)

/-! ### maps -/
section
variable {κ ν : Type} [DecidableEq κ]

class KeyOk (kb : Bk) (ek : κ → Value) : Prop where
  eq : ∀ a b, cellEq kb (ek a) (ek b) = some (decide (a = b))

def encKS (s : List UInt8) : Value := .string (str s)
def encKI (n : Int) : Value := .int .i64 n
instance : KeyOk .str encKS where
  eq := by intro a b; simp [cellEq, encKS, str_beq]
instance : KeyOk .int encKI where
  eq := by
    intro a b
    simp only [cellEq, encKI, if_true]
    rfl

def lookI : List (κ × ν) → κ → Nat → Option (Nat × ν)
  | [], _, _ => none
  | p :: r, k, i => if k = p.1 then some (i, p.2) else lookI r k (i + 1)
def look (kv : List (κ × ν)) (k : κ) : Option ν := (lookI kv k 0).map (·.2)
def upd : List (κ × ν) → κ → ν → List (κ × ν)
  | [], k, v => [(k, v)]
  | p :: r, k, v => if k = p.1 then (k, v) :: r else p :: upd r k v

theorem lookI_shift (kv : List (κ × ν)) (k : κ) : ∀ (i j : Nat), lookI kv k (i + j) = (lookI kv k i).map fun p => (p.1 + j, p.2) := by
  induction kv with
  | nil => intro i j; rfl
  | cons p r ih =>
    intro i j
    simp only [lookI]
    split
    · rfl
    · rw [show i + j + 1 = (i + 1) + j by omega, ih]
theorem look_nil (k : κ) : look ([] : List (κ × ν)) k = none := rfl
theorem look_cons (p : κ × ν) (r : List (κ × ν)) (k : κ) : look (p :: r) k = if k = p.1 then some p.2 else look r k := by
  unfold look
  simp only [lookI]
  split
  · rfl
  · have := lookI_shift r k 0 1
    rw [this]; cases lookI r k 0 <;> rfl
theorem look_upd (kv : List (κ × ν)) (k k' : κ) (v : ν) : look (upd kv k v) k' = if k' = k then some v else look kv k' := by
  induction kv with
  | nil => simp only [upd, look_cons, look_nil]
  | cons p r ih =>
    simp only [upd]
    split
    · rename_i e; subst e
      simp only [look_cons]
      split
      · rfl
      · rfl
    · rename_i e
      simp only [look_cons, ih]
      by_cases e1 : k' = p.1
      · have e2 : k' ≠ k := by intro e3; exact e (e3.symm.trans e1)
        rw [if_pos e1, if_neg e2, if_pos e1]
      · rw [if_neg e1, if_neg e1]
theorem look_mem {kv : List (κ × ν)} {k : κ} {v : ν} (h : look kv k = some v) : (k, v) ∈ kv := by
  induction kv with
  | nil => simp [look_nil] at h
  | cons p r ih =>
    rw [look_cons] at h
    split at h
    · rename_i e; cases h; subst e; simp
    · exact List.mem_cons_of_mem _ (ih h)
theorem look_none {kv : List (κ × ν)} {k : κ} (h : look kv k = none) : k ∉ kv.map (·.1) := by
  induction kv with
  | nil => simp
  | cons p r ih =>
    rw [look_cons] at h
    split at h
    · cases h
    · rename_i e
      have := ih h
      simp only [List.map_cons, List.mem_cons, not_or]
      exact ⟨e, this⟩
theorem look_of_mem {kv : List (κ × ν)} (hn : (kv.map (·.1)).Nodup) {k : κ} {v : ν} (h : (k, v) ∈ kv) : look kv k = some v := by
  induction kv with
  | nil => simp at h
  | cons p r ih =>
    rw [look_cons]
    simp only [List.map_cons, List.nodup_cons] at hn
    simp only [List.mem_cons] at h
    rcases h with rfl | h
    · simp
    · have : k ≠ p.1 := by rintro rfl; exact hn.1 (List.mem_map.2 ⟨_, h, rfl⟩)
      rw [if_neg this]; exact ih hn.2 h
theorem upd_keys (kv : List (κ × ν)) (k : κ) (v : ν) : (upd kv k v).map (·.1) = if k ∈ kv.map (·.1) then kv.map (·.1) else kv.map (·.1) ++ [k] := by
  induction kv with
  | nil => simp [upd]
  | cons p r ih =>
    simp only [upd]
    split
    · rename_i e; subst e; simp
    · rename_i e
      simp only [List.map_cons, ih, List.mem_cons]
      by_cases h : k ∈ r.map (·.1)
      · simp [h]
      · simp [h, e]
theorem upd_nodup {kv : List (κ × ν)} (hn : (kv.map (·.1)).Nodup) (k : κ) (v : ν) : ((upd kv k v).map (·.1)).Nodup := by
  rw [upd_keys]
  split
  · exact hn
  · rename_i h
    rw [List.nodup_append]
    refine ⟨hn, by simp, ?_⟩
    intro a ha b hb e
    simp at hb; subst hb; subst e; exact h ha

def mkE (ek : κ → Value) (ev : ν → Value) (p : κ × ν) (b : Nat) : MapEntry := { key := ek p.1, val := ev p.2, born := b }
/-- a map in memory -/
def MapB (ek : κ → Value) (ev : ν → Value) (g : Heap) (m : Nat) (kv : List (κ × ν)) (bs : List Nat) (ck : Nat) : Prop :=
  ∃ es : Array MapEntry, g m = some (.map es ck) ∧ es.toList = List.zipWith (mkE ek ev) kv bs ∧ bs.length = kv.length ∧ bs.Nodup ∧ (∀ b ∈ bs, b < ck) ∧ (kv.map (·.1)).Nodup
omit [DecidableEq κ] in
theorem MapB.le {ek : κ → Value} {ev : ν → Value} {g h : Heap} {m : Nat} {kv : List (κ × ν)} {bs : List Nat} {ck : Nat} (hm : MapB ek ev g m kv bs ck) (hl : Heap.le g h) : MapB ek ev h m kv bs ck := by
  obtain ⟨es, h1, h2⟩ := hm; exact ⟨es, hl _ _ h1, h2⟩

theorem findE_eq {kb : Bk} {ek : κ → Value} [hk : KeyOk kb ek] {ev : ν → Value} (k : κ) : ∀ (kv : List (κ × ν)) (bs : List Nat) (i : Nat), bs.length = kv.length →
    findE kb (ek k) (List.zipWith (mkE ek ev) kv bs) i = some ((lookI kv k i).map fun p => (p.1, ev p.2)) := by
  intro kv
  induction kv with
  | nil => intro bs i h; cases bs <;> rfl
  | cons p r ih =>
    intro bs i h
    cases bs with
    | nil => simp at h
    | cons b bs =>
      simp only [List.zipWith_cons_cons, findE, mkE, hk.eq, lookI]
      by_cases e : k = p.1
      · simp [e]
      · simp only [e, decide_false, if_false]
        exact ih bs (i + 1) (by simpa using h)

theorem MapB.rules (kb : Bk) {ek : κ → Value} [KeyOk kb ek] {ev : ν → Value} {h : Heap} {m : Nat} {kv : List (κ × ν)} {bs : List Nat} {ck : Nat} (hm : MapB ek ev h m kv bs ck) :
    (∀ z k, o2V h (.lkp kb z) (.v (.map (some m))) (.v (ek k)) = some (.v (match look kv k with | some x => ev x | none => z))) ∧
    (∀ z k, o2V h (.lkpo kb z) (.v (.map (some m))) (.v (ek k)) = some (.v (match look kv k with | some x => .tuple #[ev x, .bool true] | none => .tuple #[z, .bool false]))) ∧
    (∀ N env, o1V N env h .mlen (.v (.map (some m))) = some (.v (.int .i64 kv.length))) := by
  obtain ⟨es, h1, h2, h3, h4, h5, h6⟩ := hm
  have he : entriesOf h (.map (some m)) = some (List.zipWith (mkE ek ev) kv bs) := by simp [entriesOf, h1, h2]
  refine ⟨fun z k => ?_, fun z k => ?_, fun N env => ?_⟩
  · simp only [o2V, he, Option.bind_some, findE_eq k kv bs 0 h3, Option.map_some, look]
    cases lookI kv k 0 <;> rfl
  · simp only [o2V, he, Option.bind_some, findE_eq k kv bs 0 h3, Option.map_some, look]
    cases lookI kv k 0 <;> rfl
  · simp only [o1V, he, Option.map_some, List.length_zipWith, h3, Nat.min_self]

theorem lookI_spec : ∀ (kv : List (κ × ν)) (k : κ) (i j : Nat) (v : ν), lookI kv k i = some (j, v) → i ≤ j ∧ kv[j - i]? = some (k, v) ∧ ∀ w, upd kv k w = kv.set (j - i) (k, w) := by
  intro kv
  induction kv with
  | nil => intro k i j v h; simp [lookI] at h
  | cons p r ih =>
    intro k i j v h
    simp only [lookI] at h
    split at h
    · rename_i e; cases h; subst e
      refine ⟨Nat.le_refl _, by simp, fun w => by simp [upd]⟩
    · rename_i e
      obtain ⟨h1, h2, h3⟩ := ih _ _ _ _ h
      have e2 : j - i = (j - (i + 1)) + 1 := by omega
      refine ⟨by omega, by rw [e2]; simpa using h2, fun w => ?_⟩
      rw [e2]; simp [upd, e, h3 w]
theorem lookI_none {kv : List (κ × ν)} {k : κ} {i : Nat} (h : lookI kv k i = none) : k ∉ kv.map (·.1) ∧ ∀ w, upd kv k w = kv ++ [(k, w)] := by
  induction kv generalizing i with
  | nil => simp [upd]
  | cons p r ih =>
    simp only [lookI] at h
    split at h
    · cases h
    · rename_i e
      obtain ⟨h1, h2⟩ := ih h
      refine ⟨?_, fun w => by simp [upd, e, h2 w]⟩
      simp only [List.map_cons, List.mem_cons, not_or]; exact ⟨e, h1⟩

omit [DecidableEq κ] in
theorem zip_modify {ek : κ → Value} {ev : ν → Value} : ∀ (kv : List (κ × ν)) (bs : List Nat) (j : Nat) (k : κ) (v w : ν), bs.length = kv.length → kv[j]? = some (k, v) →
    (List.zipWith (mkE ek ev) kv bs).modify j (fun e => { e with key := ek k, val := ev w }) = List.zipWith (mkE ek ev) (kv.set j (k, w)) bs := by
  intro kv
  induction kv with
  | nil => intro bs j k v w h hj; simp at hj
  | cons p r ih =>
    intro bs j k v w h hj
    cases bs with
    | nil => simp at h
    | cons b bs =>
      cases j with
      | zero => simp [mkE]
      | succ j => simpa using ih bs j k v w (by simpa using h) (by simpa using hj)

/-- a map is written -/
theorem i_mupd {kb : Bk} {ek : κ → Value} [KeyOk kb ek] {ev : ν → Value} {N : Num} {Γ : Ctx} {g h : Heap} {m : Nat} {kv : List (κ × ν)} {bs : List Nat} {ck : Nat} (hm : MapB ek ev g m kv bs ck) (hg : Heap.le g h) (k : κ) (v : ν) {K : Value → Heap → Prop}
    (hK : ∀ o bs' ck', MapB ek ev (g.set m o) m (upd kv k v) bs' ck' → Step g h (g.set m o) (h.set m o) → (k ∈ kv.map (·.1) → bs' = bs ∧ ck' = ck) → K undef (h.set m o)) : efW N Γ (.mupd kb) [.map (some m), ek k, ev v] h K := by
  obtain ⟨es, h1, h2, h3, h4, h5, h6⟩ := hm
  have hgm : g m ≠ none := by rw [h1]; simp
  refine ⟨es, ck, hg _ _ h1, _, by rw [h2]; exact findE_eq k kv bs 0 h3, ?_⟩
  cases hl : lookI kv k 0 with
  | none =>
    obtain ⟨n1, n2⟩ := lookI_none hl
    simp only [Option.map_none]
    refine hK _ (bs ++ [ck]) (ck + 1) ⟨_, Heap.set_eq, ?_, ?_, ?_, ?_, ?_⟩ (Step.set hg hgm _) (fun hk => absurd hk n1)
    · rw [n2 v]
      simp only [Array.toList_push, h2]
      rw [List.zipWith_append (by simpa using h3.symm)]; simp [mkE]
    · rw [n2 v]; simp [h3]
    · rw [List.nodup_append]
      refine ⟨h4, by simp, ?_⟩
      intro a ha b hb e; simp at hb; subst hb; subst e; exact Nat.lt_irrefl _ (h5 a ha)
    · intro b hb; simp at hb; rcases hb with hb | rfl
      · have := h5 b hb; omega
      · omega
    · exact upd_nodup h6 k v
  | some p =>
    obtain ⟨j, x⟩ := p
    obtain ⟨_, a2, a3⟩ := lookI_spec kv k 0 j x hl
    simp only [Option.map_some]
    rw [Nat.sub_zero] at a2
    have a3' := a3 v
    rw [Nat.sub_zero] at a3'
    refine hK _ bs ck ⟨_, Heap.set_eq, ?_, ?_, h4, h5, ?_⟩ (Step.set hg hgm _) (fun _ => ⟨rfl, rfl⟩)
    · rw [a3', ← zip_modify kv bs j k x v h3 a2, ← h2]; simp
    · rw [a3']; simpa using h3
    · exact upd_nodup h6 k v
omit [DecidableEq κ] in
/-- a new map -/
theorem i_mnew {ek : κ → Value} {ev : ν → Value} {N : Num} {Γ : Ctx} {h : Heap} {K : Value → Heap → Prop}
    (hK : ∀ m h', h m = none → Heap.le h h' → MapB ek ev (fr h h') m ([] : List (κ × ν)) [] 0 → K (.map (some m)) h') : efW N Γ .mnew [] h K := by
  intro m hm
  refine hK m _ hm ((Heap.le.refl h).new hm _) ⟨#[], ?_, by simp, by simp, by simp, by simp, by simp⟩
  simp [fr, hm, Heap.set]

/-! ### going over a map -/
/-- where a walk over a map stands: the entries at these places are behind it -/
def IterB (h : Heap) (r m : Nat) (ck : Nat) (dn : List Nat) : Prop := h r = some (.mapIter (some m) ck dn.toArray ck)

theorem i_rng {N : Num} {Γ : Ctx} {h : Heap} {m : Nat} {es : Array MapEntry} {ck : Nat} (hm : h m = some (.map es ck)) {K : Value → Heap → Prop}
    (hK : ∀ r h', h r = none → Heap.le h h' → IterB (fr h h') r m ck [] → K (.pointer (some ⟨r, 0, none⟩)) h') : efW N Γ .rng [.map (some m)] h K := by
  refine ⟨es, ck, hm, fun r hr => hK r _ hr ((Heap.le.refl h).new hr _) ?_⟩
  simp [IterB, fr, hr, Heap.set]
theorem i_rng0 {N : Num} {Γ : Ctx} {h : Heap} {K : Value → Heap → Prop}
    (hK : ∀ r h', h r = none → Heap.le h h' → fr h h' r = some (.mapIter none 0 #[] 0) → K (.pointer (some ⟨r, 0, none⟩)) h') : efW N Γ .rng [.map none] h K := by
  intro r hr
  exact hK r _ hr ((Heap.le.refl h).new hr _) (by simp [fr, hr, Heap.set])
theorem i_nxt0 {N : Num} {Γ : Ctx} {h : Heap} {r a b : Nat} {s : Array Nat} (hr : h r = some (.mapIter none a s b)) {K : Value → Heap → Prop} (hK : K (.tuple #[.bool false]) h) : efW N Γ .nxt [.pointer (some ⟨r, 0, none⟩)] h K :=
  .inl ⟨_, _, _, hr, hK⟩

omit [DecidableEq κ] in
/-- the next entry of a map to which none was added: there is one that is not behind us, or all are -/
theorem i_nxt {ek : κ → Value} {ev : ν → Value} {N : Num} {Γ : Ctx} {h : Heap} {r m : Nat} {kv : List (κ × ν)} {bs : List Nat} {ck : Nat} (hm : MapB ek ev h m kv bs ck) {dn : List Nat} (hr : IterB h r m ck dn) (hsub : ∀ b ∈ dn, b ∈ bs) {K : Value → Heap → Prop}
    (hend : (∀ b ∈ bs, b ∈ dn) → K (.tuple #[.bool false]) h)
    (hnext : ∀ (i b : Nat) k v, kv[i]? = some (k, v) → bs[i]? = some b → b ∉ dn → K (.tuple #[.bool true, ek k, ev v]) (h.set r (.mapIter (some m) ck (dn ++ [b]).toArray ck))) : efW N Γ .nxt [.pointer (some ⟨r, 0, none⟩)] h K := by
  obtain ⟨es, h1, h2, h3, h4, h5, h6⟩ := hm
  have hmem : ∀ e ∈ es.toList, ∃ (i : Nat) (k : κ) (v : ν) (b : Nat), kv[i]? = some (k, v) ∧ bs[i]? = some b ∧ e = mkE ek ev (k, v) b := by
    intro e he
    rw [h2] at he
    obtain ⟨i, hi, rfl⟩ := List.getElem_of_mem he
    simp only [List.length_zipWith] at hi
    have hi1 : i < kv.length := by omega
    have hi2 : i < bs.length := by omega
    exact ⟨i, kv[i].1, kv[i].2, bs[i], by simp [hi1], by simp [hi2], by simp⟩
  have hborn : ∀ e ∈ es.toList, e.born ∈ bs ∧ e.born < ck := by
    intro e he
    obtain ⟨i, k, v, b, a1, a2, rfl⟩ := hmem e he
    have := List.mem_of_getElem? a2
    exact ⟨this, h5 _ this⟩
  have hnew : (es.filter fun e => !dn.toArray.contains e.born).filter (fun e => decide (e.born ≥ ck)) = #[] := by
    apply Array.toList_inj.1
    simp only [Array.toList_filter]
    rw [List.filter_eq_nil_iff]
    intro e he
    have := (hborn e (List.mem_filter.1 he).1).2
    simp; omega
  have hold : ∀ e, e ∈ ((es.filter fun e => !dn.toArray.contains e.born).filter (fun e => decide (e.born < ck))) ↔ e ∈ es.toList ∧ e.born ∉ dn := by
    intro e
    simp only [Array.mem_filter, Array.mem_toList_iff]
    constructor
    · rintro ⟨⟨a, b⟩, _⟩; exact ⟨a, by simpa using b⟩
    · rintro ⟨a, b⟩; exact ⟨⟨a, by simpa using b⟩, by simpa using (hborn e (by simpa using a)).2⟩
  refine .inr ⟨m, ck, dn.toArray, ck, es, ck, hr, h1, ?_, ?_, ?_⟩
  · by_cases he : es.isEmpty
    · simp [he]
    · have : ∃ e, e ∈ es.toList := by
        cases hl : es.toList with
        | nil => exfalso; apply he; simp [Array.isEmpty, ← Array.length_toList, hl]
        | cons e l => exact ⟨e, by simp⟩
      obtain ⟨e, hme⟩ := this
      have hlt := (hborn e hme).2
      have : es.all (fun x => decide (x.born ≥ ck)) = false := by
        rw [← Array.all_toList, List.all_eq_false]
        exact ⟨e, hme, by simp; omega⟩
      simp [this]
  · unfold cands
    simp only [hnew]
    intro h0
    simp only [Array.size_append, Array.size_map] at h0
    split at h0
    · simp at h0
    · rename_i hne
      apply hne
      simpa using h0
  · intro c hc
    unfold cands at hc
    simp only [hnew] at hc
    cases c with
    | none =>
      apply hend
      simp only [Array.toList_append, List.mem_append] at hc
      rcases hc with hc | hc
      · split at hc
        · rename_i hemp
          intro b hb
          apply Classical.byContradiction
          intro hnb
          obtain ⟨i, hi, rfl⟩ := List.getElem_of_mem hb
          have hi1 : i < kv.length := by omega
          have : mkE ek ev kv[i] bs[i] ∈ es.toList := by
            rw [h2]
            have hlen : i < (List.zipWith (mkE ek ev) kv bs).length := by simp; omega
            have e : (List.zipWith (mkE ek ev) kv bs)[i] = mkE ek ev kv[i] bs[i] := by simp
            rw [← e]; exact List.getElem_mem hlen
          have h7 := (hold _).2 ⟨this, by simpa [mkE] using hnb⟩
          simp only [Array.isEmpty_iff] at hemp
          rw [hemp] at h7
          simp at h7
        · simp at hc
      · simp at hc
    | some e =>
      simp only [Array.toList_append, List.mem_append] at hc
      rcases hc with hc | hc
      · split at hc <;> simp at hc
      · simp only [Array.append_empty, Array.toList_map, List.mem_map, Option.some.injEq, exists_eq_right, Array.mem_toList_iff] at hc
        obtain ⟨a1, a2⟩ := (hold e).1 hc
        obtain ⟨i, k, v, b, b1, b2, rfl⟩ := hmem e a1
        have := hnext i b k v b1 b2 a2
        simpa [mkE] using this

omit [DecidableEq κ] in
/-- the entry at which a walk stands -/
theorem i_ent {ek : κ → Value} {ev : ν → Value} {N : Num} {Γ : Ctx} {h : Heap} {r m : Nat} {kv : List (κ × ν)} {bs : List Nat} {ck : Nat} (hm : MapB ek ev h m kv bs ck) {dn : List Nat} {b : Nat} (hr : IterB h r m ck (dn ++ [b])) {i : Nat} {k : κ} {v : ν}
    (h1 : kv[i]? = some (k, v)) (h2 : bs[i]? = some b) {K : Value → Heap → Prop} (hK : K (.tuple #[ek k, ev v]) h) : efW N Γ .ent [.pointer (some ⟨r, 0, none⟩)] h K := by
  obtain ⟨es, a1, a2, a3, a4, a5, a6⟩ := hm
  have hfind : ∀ (kv : List (κ × ν)) (bs : List Nat) (i : Nat), bs.length = kv.length → bs.Nodup → kv[i]? = some (k, v) → bs[i]? = some b → (List.zipWith (mkE ek ev) kv bs).find? (fun e => e.born == b) = some (mkE ek ev (k, v) b) := by
    intro kv
    induction kv with
    | nil => intro bs i _ _ h; simp at h
    | cons p kr ih =>
      intro bs i hl hn hk hb
      cases bs with
      | nil => simp at hl
      | cons b' bs =>
        cases i with
        | zero => simp at hk hb; subst hk; subst hb; simp [mkE]
        | succ i =>
          simp only [List.getElem?_cons_succ] at hk hb
          simp only [List.nodup_cons] at hn
          have : b' ≠ b := by rintro rfl; exact hn.1 (List.mem_of_getElem? hb)
          simp only [List.zipWith_cons_cons, List.find?_cons]
          have hf : ((mkE ek ev p b').born == b) = false := by simp [mkE, this]
          rw [hf]
          exact ih bs i (by simpa using hl) hn.2 hk hb
  refine ⟨m, ck, (dn ++ [b]).toArray, ck, b, es, hr, by simp, a1, mkE ek ev (k, v) b, ?_, hK⟩
  rw [← Array.find?_toList, a2]
  exact hfind kv bs i a3 a4 h1 h2
end
end Go.Cw
/- Own slices, each a block of its own. -/
namespace Go.Cw
open Go

def blkOf : Value → Option Nat
  | .slice (some a) _ _ => some a.block
  | _ => none
/-- an own slice: nil, or the whole of a block -/
def SlB {α : Type} (enc : α → List Value) (sz : Nat) (g : Heap) (v : Value) (l : List α) : Prop :=
  ∃ a cap, v = .slice a l.length cap ∧ l.length ≤ cap ∧ cap ≤ maxLen ∧
    ((a = none ∧ l = [] ∧ cap = 0) ∨ ∃ b c t, a = some ⟨b, 0, none⟩ ∧ g b = some (.cells c t (0, 0)) ∧ c.size = cap * sz ∧ ∀ i, i < (l.flatMap enc).length → c[i]? = (l.flatMap enc)[i]?)
theorem SlB.own {α : Type} {enc : α → List Value} {sz : Nat} {g h0 : Heap} {v : Value} {l : List α} (hs : SlB enc sz g v l) (hl : Heap.le h0 g) (hb : ∀ b, blkOf v = some b → h0 b = none) : OwnS enc sz h0 g v l := by
  obtain ⟨a, cap, rfl, h1, h2, h3⟩ := hs
  refine ⟨hl, a, cap, rfl, h1, h2, h3.imp id ?_⟩
  rintro ⟨b, c, t, rfl, h4, h5, h6⟩
  exact ⟨b, c, t, rfl, hb b rfl, h4, h5, h6⟩
theorem OwnS.slb {α : Type} {enc : α → List Value} {sz : Nat} {g h0 : Heap} {v : Value} {l : List α} (hs : OwnS enc sz h0 g v l) : SlB enc sz g v l ∧ ∀ b, blkOf v = some b → h0 b = none := by
  obtain ⟨_, a, cap, rfl, h1, h2, h3⟩ := hs
  refine ⟨⟨a, cap, rfl, h1, h2, h3.imp id ?_⟩, ?_⟩
  · rintro ⟨b, c, t, rfl, _, h4, h5, h6⟩
    exact ⟨b, c, t, rfl, h4, h5, h6⟩
  · intro b hb
    rcases h3 with ⟨rfl, _⟩ | ⟨b', c, t, rfl, h3, _⟩
    · simp [blkOf] at hb
    · simp only [blkOf, Option.some.injEq] at hb; subst hb; exact h3
theorem SlB.nil {α : Type} {enc : α → List Value} {sz : Nat} {g : Heap} : SlB enc sz g (.slice none 0 0) ([] : List α) := ⟨none, 0, rfl, by simp, by simp [maxLen], .inl ⟨rfl, rfl, rfl⟩⟩
theorem SlB.mem {α : Type} {enc : α → List Value} {sz : Nat} {g : Heap} {v : Value} {l : List α} (hs : SlB enc sz g v l) {b : Nat} (hb : blkOf v = some b) : g b ≠ none := by
  obtain ⟨a, cap, rfl, h1, h2, h3⟩ := hs
  rcases h3 with ⟨rfl, _⟩ | ⟨b', c, t, rfl, h3, _⟩
  · simp [blkOf] at hb
  · simp only [blkOf, Option.some.injEq] at hb; subst hb; rw [h3]; simp
theorem SlB.same {α : Type} {enc : α → List Value} {sz : Nat} {g g' : Heap} {v : Value} {l : List α} (hs : SlB enc sz g v l) (hb : ∀ b, blkOf v = some b → g' b = g b) : SlB enc sz g' v l := by
  obtain ⟨a, cap, rfl, h1, h2, h3⟩ := hs
  refine ⟨a, cap, rfl, h1, h2, h3.imp id ?_⟩
  rintro ⟨b, c, t, rfl, h4, h5, h6⟩
  exact ⟨b, c, t, rfl, by rw [hb b rfl]; exact h4, h5, h6⟩
theorem SlB.le {α : Type} {enc : α → List Value} {sz : Nat} {g g' : Heap} {v : Value} {l : List α} (hs : SlB enc sz g v l) (hl : Heap.le g g') : SlB enc sz g' v l := by
  refine hs.same fun b hb => ?_
  cases hg : g b with
  | none => exact absurd hg (hs.mem hb)
  | some o => exact hl b o hg
theorem SlB.sl {α : Type} {enc : α → List Value} {sz : Nat} (he : ∀ x, (enc x).length = sz) {g : Heap} {v : Value} {l : List α} (hs : SlB enc sz g v l) : Sl enc g v l := by
  have := hs.own (h0 := fun _ => none) (fun b o h => by cases h) (fun _ _ => rfl)
  exact this.sl he
theorem SlB.one {α : Type} {enc : α → List Value} {sz : Nat} {g : Heap} {v : Value} {l : List α} (hs : SlB enc sz g v l) : Cw.one v = true ∧ v.cells = #[v] := by
  obtain ⟨a, cap, rfl, _⟩ := hs; exact ⟨rfl, rfl⟩

/-- a new slice -/
theorem i_bslB {α : Type} (enc : α → List Value) (sz : Nat) (he : ∀ x, (enc x).length = sz) (l : List α) {N : Num} {Γ : Ctx} {h : Heap} {t n : Nat} {c : Array Value} {K : Value → Heap → Prop} (hc : c.toList = l.flatMap enc) (hn : n = l.length) (hm : l.length ≤ maxLen)
    (hx : ∀ v b h', Heap.le h h' → h b = none → blkOf v = some b → SlB enc sz (fr h h') v l → K v h') : efW N Γ (.bsl t n) [.agg c] h K := by
  subst hn
  intro b hb
  refine hx _ b _ ((Heap.le.refl h).new hb _) hb rfl ⟨_, _, rfl, Nat.le_refl _, hm, .inr ⟨b, c, N.tid t, rfl, by simp [fr, hb, Heap.set], ?_, ?_⟩⟩
  · rw [← Array.length_toList, hc, flat_len he]
  · intro i hi
    rw [← Array.getElem?_toList, hc]

/-- append to an own slice -/
theorem i_appB {α : Type} {enc : α → List Value} {sz : Nat} (he : ∀ x, (enc x).length = sz) {N : Num} {Γ : Ctx} {g h : Heap} {t bytes : Nat} {v x : Value} {l l' : List α} (hone : ∀ x ∈ l', (enc x).all Cw.one = true)
    (hs : SlB enc sz g v l) (hg : Heap.le g h) (hx : Sl enc h x l') (hlen : (l.length + l'.length) * (bytes + 1) ≤ 1073741824) {K : Value → Heap → Prop}
    (hK : ∀ v' h' g', SlB enc sz g' v' (l ++ l') → Step g h g' h' → (∀ b, blkOf v ≠ some b → blkOf v' ≠ some b → g' b = g b) → (∀ b, blkOf v' = some b → blkOf v = some b ∨ h b = none) →
      (∀ b o, h b = some o → blkOf v ≠ some b → h' b = some o) → K v' h') : efW N Γ (.app t sz bytes) [v, x] h K := by
  have hown : OwnS enc sz (fun b => if blkOf v = some b then none else h b) h v l := by
    refine (hs.le hg).own ?_ ?_
    · intro b o hb; dsimp only at hb; split at hb
      · cases hb
      · exact hb
    · intro b hb; simp [hb]
  refine i_app1 he hone hown hx hlen fun v' h' ho => ?_
  obtain ⟨h1, h2⟩ := ho.slb
  have hle := ho.1
  refine hK v' h' (fun b => if blkOf v' = some b then h' b else if blkOf v = some b then none else g b) ?_ ⟨?_, ?_, ?_⟩ ?_ ?_ ?_
  · exact h1.same fun b hb => by simp [hb]
  · intro b o hb
    dsimp only at hb
    split at hb
    · exact hb
    · split at hb
      · cases hb
      · rename_i hv; exact hle b o (by simp [hv]; exact hg b o hb)
  · intro b o hb hgb
    have hv : blkOf v ≠ some b := fun e => hs.mem e hgb
    exact hle b o (by simp [hv]; exact hb)
  · intro b hb hgb
    have hv : blkOf v ≠ some b := fun e => hs.mem e hgb
    have hv' : blkOf v' ≠ some b := by
      intro e
      have := h2 b e
      simp only [hv, if_false] at this
      exact hb this
    simp [hv, hv', hgb]
  · intro b hv hv'; simp [hv, hv']
  · intro b hb
    have := h2 b hb
    by_cases e : blkOf v = some b
    · exact .inl e
    · simp only [e, if_false] at this; exact .inr this
  · intro b o hb hv
    exact hle b o (by simp [hv]; exact hb)
theorem OwnS.slf2 {α : Type} {enc : α → List Value} {sz : Nat} (he : ∀ x, (enc x).length = sz) {h0 h : Heap} {v : Value} {l : List α} (ho : OwnS enc sz h0 h v l) : Sl enc (fr h0 h) v l :=
  SlB.sl he (ho.slb.1.same fun b hb => by simp [fr, ho.slb.2 b hb])
end Go.Cw
/- Sights, epochs, and where a tag is: what the program and the document reckon. -/
namespace Go.Cw
open Go

structure Si where
  place : Int
  strength : Int
  time : Int
  tag : List UInt8
  deriving DecidableEq, Inhabited
def Si.enc (s : Si) : List Value := [.int .i64 s.place, .int .i64 s.strength, .int .i64 s.time, .string (str s.tag)]
theorem Si.enc_len (s : Si) : s.enc.length = 4 := rfl
theorem Si.enc_one (s : Si) : s.enc.all one = true := rfl
def Si.bad (s : Si) : Prop := s.place < 0 ∨ 7 < s.place ∨ s.strength < 0 ∨ 255 < s.strength
instance Si.decBad (s : Si) : Decidable s.bad := by unfold Si.bad; infer_instance

def seen (l : List Si) (tag : List UInt8) (p : Int) : Prop := ∃ s ∈ l, s.tag = tag ∧ s.place = p
instance (l : List Si) (tag : List UInt8) (p : Int) : Decidable (seen l tag p) := by unfold seen; infer_instance
def sumS (l : List Si) (tag : List UInt8) (p : Int) : Int := ((l.filter fun s => decide (s.tag = tag ∧ s.place = p)).map (·.strength)).sum
def toldIn (l : List Si) (tag : List UInt8) : Prop := ∃ s ∈ l, s.tag = tag
instance (l : List Si) (tag : List UInt8) : Decidable (toldIn l tag) := by unfold toldIn; infer_instance

abbrev Ep := List (List UInt8 × List (Int × Int))
def addS (E : Ep) (s : Si) : Ep := upd E s.tag (upd ((look E s.tag).getD []) s.place ((look ((look E s.tag).getD []) s.place).getD 0 + s.strength))
def tellE (l : List Si) : Ep := l.foldl addS []
theorem tellE_snoc (l : List Si) (s : Si) : tellE (l ++ [s]) = addS (tellE l) s := by simp [tellE]

theorem snoc_ind {α : Type} {P : List α → Prop} (h0 : P []) (hs : ∀ l a, P l → P (l ++ [a])) (l : List α) : P l := by
  have : ∀ n (l : List α), l.length = n → P l := by
    intro n
    induction n with
    | zero => intro l h; rw [List.eq_nil_of_length_eq_zero h]; exact h0
    | succ n ih =>
      intro l h
      rcases List.eq_nil_or_concat l with rfl | ⟨l', a, rfl⟩
      · exact h0
      · rw [List.concat_eq_append] at h ⊢; exact hs l' a (ih l' (by simpa using h))
  exact this _ l rfl

theorem seen_snoc (l : List Si) (s : Si) (tag : List UInt8) (p : Int) : seen (l ++ [s]) tag p ↔ seen l tag p ∨ (s.tag = tag ∧ s.place = p) := by
  simp only [seen, List.mem_append, List.mem_singleton]
  constructor
  · rintro ⟨x, hx | rfl, h⟩
    · exact .inl ⟨x, hx, h⟩
    · exact .inr h
  · rintro (⟨x, hx, h⟩ | h)
    · exact ⟨x, .inl hx, h⟩
    · exact ⟨s, .inr rfl, h⟩
theorem toldIn_snoc (l : List Si) (s : Si) (tag : List UInt8) : toldIn (l ++ [s]) tag ↔ toldIn l tag ∨ s.tag = tag := by
  simp only [toldIn, List.mem_append, List.mem_singleton]
  constructor
  · rintro ⟨x, hx | rfl, h⟩
    · exact .inl ⟨x, hx, h⟩
    · exact .inr h
  · rintro (⟨x, hx, h⟩ | h)
    · exact ⟨x, .inl hx, h⟩
    · exact ⟨s, .inr rfl, h⟩
theorem sumS_snoc (l : List Si) (s : Si) (tag : List UInt8) (p : Int) : sumS (l ++ [s]) tag p = sumS l tag p + (if s.tag = tag ∧ s.place = p then s.strength else 0) := by
  unfold sumS
  rw [List.filter_append, List.map_append, List.sum_append]
  by_cases h : s.tag = tag ∧ s.place = p <;> simp [h]
theorem sumS_zero {l : List Si} {tag : List UInt8} {p : Int} (h : ¬ seen l tag p) : sumS l tag p = 0 := by
  unfold sumS
  have : l.filter (fun s => decide (s.tag = tag ∧ s.place = p)) = [] := by
    rw [List.filter_eq_nil_iff]
    intro s hs hd
    exact h ⟨s, hs, by simpa using hd⟩
  rw [this]; rfl

/-- WHAT THE MAPS OF AN EPOCH HOLD. -/
theorem tellE_spec (l : List Si) : (∀ tag, look (tellE l) tag = none ↔ ¬ toldIn l tag) ∧ ((tellE l).map (·.1)).Nodup ∧
    ∀ tag pl, look (tellE l) tag = some pl → (pl.map (·.1)).Nodup ∧ ∀ p, look pl p = if seen l tag p then some (sumS l tag p) else none := by
  induction l using snoc_ind with
  | h0 =>
    refine ⟨fun tag => ?_, by simp [tellE], fun tag pl h => by simp [tellE, look_nil] at h⟩
    simp [tellE, look_nil, toldIn]
  | hs l s ih =>
    obtain ⟨i1, i2, i3⟩ := ih
    rw [tellE_snoc]
    refine ⟨fun tag => ?_, upd_nodup i2 _ _, fun tag pl h => ?_⟩
    · rw [addS, look_upd, toldIn_snoc]
      by_cases e : tag = s.tag
      · rw [if_pos e]; simp [e]
      · rw [if_neg e, i1 tag]
        have : ¬ s.tag = tag := fun h => e h.symm
        simp [this]
    · rw [addS, look_upd] at h
      by_cases e : tag = s.tag
      · rw [if_pos e] at h
        cases h
        have hpl : (((look (tellE l) s.tag).getD []).map (·.1)).Nodup ∧ ∀ p, look ((look (tellE l) s.tag).getD []) p = if seen l s.tag p then some (sumS l s.tag p) else none := by
          cases hh : look (tellE l) s.tag with
          | none =>
            have h1 := (i1 s.tag).1 hh
            refine ⟨by simp, fun p => ?_⟩
            have : ¬ seen l s.tag p := by rintro ⟨x, hx, h2, _⟩; exact h1 ⟨x, hx, h2⟩
            simp [this, look_nil]
          | some pl => exact i3 s.tag pl hh
        subst e
        refine ⟨upd_nodup hpl.1 _ _, fun p => ?_⟩
        rw [look_upd]
        by_cases e2 : p = s.place
        · subst e2
          have h1 : seen (l ++ [s]) s.tag s.place := (seen_snoc ..).2 (.inr ⟨rfl, rfl⟩)
          rw [if_pos rfl, if_pos h1, sumS_snoc, if_pos ⟨rfl, rfl⟩, hpl.2 s.place]
          by_cases h2 : seen l s.tag s.place
          · rw [if_pos h2]; rfl
          · rw [if_neg h2, sumS_zero h2]; rfl
        · have h1 : seen (l ++ [s]) s.tag p ↔ seen l s.tag p := by
            rw [seen_snoc]; constructor
            · rintro (h | ⟨_, h⟩)
              · exact h
              · exact absurd h.symm e2
            · exact .inl
          rw [if_neg e2, sumS_snoc, if_neg (show ¬ (s.tag = s.tag ∧ s.place = p) from fun h => e2 h.2.symm), hpl.2 p]
          by_cases h2 : seen l s.tag p
          · rw [if_pos h2, if_pos (h1.2 h2)]; simp
          · rw [if_neg h2, if_neg (fun h => h2 (h1.1 h))]
      · rw [if_neg e] at h
        obtain ⟨a, b⟩ := i3 tag pl h
        refine ⟨a, fun p => ?_⟩
        have hne : ¬ (s.tag = tag) := fun h => e h.symm
        have h1 : seen (l ++ [s]) tag p ↔ seen l tag p := by
          rw [seen_snoc]; constructor
          · rintro (h | ⟨h, _⟩)
            · exact h
            · exact absurd h hne
          · exact .inl
        rw [b p, sumS_snoc, if_neg (show ¬ (s.tag = tag ∧ s.place = p) from fun h => hne h.1)]
        by_cases h2 : seen l tag p
        · rw [if_pos h2, if_pos (h1.2 h2)]; simp
        · rw [if_neg h2, if_neg (fun h => h2 (h1.1 h))]

theorem sumS_bound {l : List Si} (hb : ∀ s ∈ l, ¬ s.bad) (tag : List UInt8) (p : Int) : 0 ≤ sumS l tag p ∧ sumS l tag p ≤ 255 * l.length := by
  induction l using snoc_ind with
  | h0 => simp [sumS]
  | hs l s ih =>
    have h1 := ih fun x hx => hb x (by simp [hx])
    have h2 := hb s (by simp)
    simp only [Si.bad] at h2
    rw [sumS_snoc]
    simp only [List.length_append, List.length_cons, List.length_nil]
    split <;> omega
theorem seen_place {l : List Si} (hb : ∀ s ∈ l, ¬ s.bad) {tag : List UInt8} {p : Int} (h : seen l tag p) : 0 ≤ p ∧ p ≤ 7 := by
  obtain ⟨s, hs, _, rfl⟩ := h
  have := hb s hs
  simp only [Si.bad] at this
  omega

/-! where a tag is -/
def cntE (W : List (List Si)) (tag : List UInt8) (p : Int) : Nat := (W.filter fun l => decide (seen l tag p)).length
def strE (W : List (List Si)) (tag : List UInt8) (p : Int) : Int := (W.map fun l => sumS l tag p).sum
def bestTo (need : Nat) (cnt : Int → Nat) (st : Int → Int) : Nat → Int
  | 0 => -1
  | p + 1 => if cnt p < need then bestTo need cnt st p else if bestTo need cnt st p < 0 ∨ cnt (bestTo need cnt st p) < cnt p ∨ (cnt p = cnt (bestTo need cnt st p) ∧ st (bestTo need cnt st p) < st p) then p else bestTo need cnt st p
def atW (need : Nat) (W : List (List Si)) (tag : List UInt8) : Int := bestTo need (cntE W tag) (strE W tag) 8
/-- where a tag is in the last epoch -/
def atE (window need : Nat) (EL : List (List Si)) (tag : List UInt8) : Int := atW need (EL.drop (EL.length - window)) tag
theorem bestTo_range (need : Nat) (cnt : Int → Nat) (st : Int → Int) : ∀ n, -1 ≤ bestTo need cnt st n ∧ bestTo need cnt st n < n := by
  intro n
  induction n with
  | zero => simp [bestTo]
  | succ n ih => simp only [bestTo]; split <;> (try split) <;> omega
theorem cntE_snoc (W : List (List Si)) (l : List Si) (tag : List UInt8) (p : Int) : cntE (W ++ [l]) tag p = cntE W tag p + if seen l tag p then 1 else 0 := by
  unfold cntE; rw [List.filter_append, List.length_append]; by_cases h : seen l tag p <;> simp [h]
theorem strE_snoc (W : List (List Si)) (l : List Si) (tag : List UInt8) (p : Int) : strE (W ++ [l]) tag p = strE W tag p + sumS l tag p := by
  unfold strE; simp
theorem cntE_le (W : List (List Si)) (tag : List UInt8) (p : Int) : cntE W tag p ≤ W.length := List.length_filter_le _ _
theorem strE_bound {W : List (List Si)} (hb : ∀ l ∈ W, (∀ s ∈ l, ¬ s.bad) ∧ l.length ≤ 1000000) (tag : List UInt8) (p : Int) : 0 ≤ strE W tag p ∧ strE W tag p ≤ 255000000 * W.length := by
  induction W using snoc_ind with
  | h0 => simp [strE]
  | hs W l ih =>
    have h1 := ih fun x hx => hb x (by simp [hx])
    obtain ⟨h2, h3⟩ := hb l (by simp)
    have h4 := sumS_bound h2 tag p
    rw [strE_snoc]
    simp only [List.length_append, List.length_cons, List.length_nil]
    omega
end Go.Cw
