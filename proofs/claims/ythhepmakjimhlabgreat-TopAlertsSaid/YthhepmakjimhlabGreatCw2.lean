/- Part 2 of the proof of TopAlerts: a small language for the program's functions, its soundness, and what the functions do. No conditions beyond the theorems' own. -/
import Derived.Test.YthhepmakjimhlabGreatCw1
import Derived.Below
import Derived.Carry
import Derived.Deep.Slices
import Derived.OpenShut
import Derived.ProofKit
import Derived.ShutString
import Derived.WalkKit
import GoSem.ClaimJoined
set_option linter.unusedSimpArgs false
set_option linter.unusedVariables false
set_option maxRecDepth 20000
namespace Go.Cw
open Go
def OwnS {α : Type} (enc : α → List Value) (sz : Nat) (h0 h : Heap) (v : Value) (l : List α) : Prop :=
  Heap.le h0 h ∧ ∃ a cap, v = .slice a l.length cap ∧ l.length ≤ cap ∧ cap ≤ maxLen ∧
    ((a = none ∧ l = [] ∧ cap = 0) ∨ ∃ b c t, a = some ⟨b, 0, none⟩ ∧ h0 b = none ∧ h b = some (.cells c t (0, 0)) ∧ c.size = cap * sz ∧ ∀ i, i < (l.flatMap enc).length → c[i]? = (l.flatMap enc)[i]?)
theorem Heap.le.refl (h : Heap) : Heap.le h h := fun _ _ h => h
theorem Heap.le.trans {a b c : Heap} (h1 : Heap.le a b) (h2 : Heap.le b c) : Heap.le a c := fun x o h => h2 x o (h1 x o h)
theorem Heap.le.new {h0 h : Heap} (hl : Heap.le h0 h) {b : Nat} (hb : h b = none) (o : Obj) : Heap.le h0 (h.set b o) := by
  intro x ob hx
  have := hl x ob hx
  simp only [Heap.set]
  split
  · rename_i e; subst e; rw [hb] at this; cases this
  · exact this
theorem Heap.le.over {h0 h : Heap} (hl : Heap.le h0 h) {b : Nat} (hb : h0 b = none) (o : Obj) : Heap.le h0 (h.set b o) := by
  intro x ob hx
  have := hl x ob hx
  simp only [Heap.set]
  split
  · rename_i e; subst e; rw [hb] at hx; cases hx
  · exact this
theorem OwnS.nil {α : Type} {enc : α → List Value} {sz : Nat} {h0 h : Heap} (hl : Heap.le h0 h) : OwnS enc sz h0 h (.slice none 0 0) ([] : List α) :=
  ⟨hl, none, 0, rfl, by simp, by simp [maxLen], .inl ⟨rfl, rfl, rfl⟩⟩
theorem OwnS.sl {α : Type} {enc : α → List Value} {sz : Nat} (he : ∀ x, (enc x).length = sz) {h0 h : Heap} {v : Value} {l : List α} (ho : OwnS enc sz h0 h v l) : Sl enc h v l := by
  obtain ⟨_, a, cap, h1, h2, _, h3⟩ := ho
  refine ⟨a, cap, h1, h2, ?_⟩
  rcases h3 with ⟨_, h4, _⟩ | ⟨b, c, t, h4, _, h5, h6, h7⟩
  · exact .inl h4
  · refine .inr ⟨_, h4, rfl, c, t, _, h5, ?_, ?_⟩
    · rw [flat_len he, h6]
      have := Nat.mul_le_mul_right sz h2
      simpa using this
    · intro i hi
      simpa using h7 i hi
theorem putL_get (c : Array Value) : ∀ (l : List Value) (off i : Nat), off + l.length ≤ c.size → (putL c off l).size = c.size ∧ (putL c off l)[i]? = if off ≤ i ∧ i < off + l.length then l[i - off]? else c[i]? := by
  intro l
  induction l generalizing c with
  | nil => intro off i _; simp [putL]; omega
  | cons v l ih =>
    intro off i hle
    simp only [List.length_cons] at hle
    obtain ⟨h1, h2⟩ := ih (c.setIfInBounds off v) (off + 1) i (by simp; omega)
    refine ⟨by simpa [putL] using h1, ?_⟩
    simp only [putL, h2, List.length_cons]
    by_cases e : i = off
    · subst e
      have hlt : i < c.size := by omega
      have : ¬ (i + 1 ≤ i ∧ i < i + 1 + l.length) := by omega
      rw [if_neg this, if_pos (by omega)]
      simp [hlt]
    · by_cases hh : off + 1 ≤ i ∧ i < off + 1 + l.length
      · rw [if_pos hh, if_pos (by omega)]
        have : i - off = (i - (off + 1)) + 1 := by omega
        rw [this]; simp
      · rw [if_neg hh, if_neg (by omega)]
        simp [Array.getElem?_setIfInBounds, Ne.symm e]
theorem app_own {N : Num} {Γ : Ctx} {α : Type} {enc : α → List Value} {sz bytes t : Nat} (he : ∀ x, (enc x).length = sz) {h0 h : Heap} {v x : Value} {l l' : List α} (hone : ∀ x ∈ l', (enc x).all one = true)
    (ho : OwnS enc sz h0 h v l) (hx : newCells h sz x = some (l'.length, (l'.flatMap enc).toArray)) (hlen : (l.length + l'.length) * (bytes + 1) ≤ 1073741824) {K : Value → Heap → Prop}
    (hK : ∀ v' h', OwnS enc sz h0 h' v' (l ++ l') → K v' h') : efW N Γ (.app t sz bytes) [v, x] h K := by
  obtain ⟨hl, a, cap, rfl, hcap, hmax, hc⟩ := ho
  have hb : (l.length + l'.length) * bytes ≤ 1073741824 := Nat.le_trans (Nat.mul_le_mul_left _ (Nat.le_succ _)) hlen
  have hn : l.length + l'.length ≤ 1073741824 := by
    have : (l.length + l'.length) * 1 ≤ (l.length + l'.length) * (bytes + 1) := Nat.mul_le_mul_left _ (by omega)
    omega
  have hall : (l'.flatMap enc).all one = true := by
    rw [List.all_flatMap, List.all_eq_true]; intro y hy; exact hone y hy
  simp only [efW]
  refine ⟨l'.length, _, hx, ?_⟩
  have fl := flat_len he l
  have fl' := flat_len he l'
  split
  · rename_i hfit
    rcases hc with ⟨rfl, rfl, rfl⟩ | ⟨b, c, ty, rfl, hb0, hbh, hsz, hcs⟩
    · have : l' = [] := by cases l' <;> simp at hfit ⊢
      subst this
      exact hK _ _ ⟨hl, none, 0, by simp, by simp, by simp [maxLen], .inl ⟨rfl, rfl, rfl⟩⟩
    · simp only [List.toList_toArray]
      have hfit' : (l.length + l'.length) * sz ≤ cap * sz := Nat.mul_le_mul_right sz hfit
      rw [Nat.add_mul] at hfit'
      have hput : ∃ c', putRow h ((⟨b, 0, none⟩ : Addr).add (l.length * sz)) (l'.flatMap enc) = some (h.set b (.cells c' ty (0, 0))) ∧ c'.size = c.size ∧
          ∀ i, i < ((l ++ l').flatMap enc).length → c'[i]? = ((l ++ l').flatMap enc)[i]? := by
        rw [addr_add' _ rfl]
        refine ⟨putL c (l.length * sz) (l'.flatMap enc), ?_, ?_, ?_⟩
        · cases hf : l'.flatMap enc with
          | nil =>
            simp only [putRow, putL, Option.some.injEq]
            funext y
            simp only [Heap.set]
            split
            · rename_i e; subst e; exact hbh
            · rfl
          | cons y ys =>
            have h1 : 0 + l.length * sz + (y :: ys).length ≤ c.size := by rw [← hf, fl', hsz]; omega
            have h2 : (y :: ys).all one = true := by rw [← hf]; exact hall
            simp only [putRow, Option.isSome_none, Bool.false_eq_true, if_false, hbh]
            rw [if_pos ⟨h1, h2⟩]
            simp
        · exact (putL_get c _ _ 0 (by rw [fl', hsz]; omega)).1
        · intro i hi
          have := (putL_get c (l'.flatMap enc) (l.length * sz) i (by rw [fl', hsz]; omega)).2
          rw [this]
          simp only [List.flatMap_append, List.length_append, fl, fl'] at hi ⊢
          by_cases hh : i < l.length * sz
          · rw [if_neg (by omega), hcs i (by rw [fl]; exact hh), List.getElem?_append_left (by rw [fl]; exact hh)]
          · rw [if_pos (by omega), List.getElem?_append_right (by rw [fl]; omega), fl]
      obtain ⟨c', h1, h2, h3⟩ := hput
      refine ⟨_, h1, hK _ _ ⟨hl.over hb0 _, some ⟨b, 0, none⟩, cap, by simp, by simpa using hfit, hmax, .inr ⟨b, c', ty, rfl, hb0, by simp [Heap.set], by rw [h2, hsz], h3⟩⟩⟩
  · rename_i hnofit
    refine ⟨by simp [maxLen]; omega, by omega, ?_⟩
    have holds : ∃ olds : Array Value, newCells h sz (.slice a l.length cap) = some (l.length, olds) ∧ olds.toList = l.flatMap enc := by
      rcases hc with ⟨rfl, rfl, rfl⟩ | ⟨b, c, ty, rfl, hb0, hbh, hsz, hcs⟩
      · exact ⟨#[], by simp [newCells], by simp⟩
      · by_cases hz : l.length * sz = 0
        · refine ⟨#[], by simp [newCells, hz], ?_⟩
          have : (l.flatMap enc).length = 0 := by rw [fl]; exact hz
          rw [List.eq_nil_of_length_eq_zero this]
        · have hr : rowAt h ⟨b, 0, none⟩ (l.flatMap enc) := by
            refine ⟨rfl, c, ty, _, hbh, ?_, fun i hi => by simpa using hcs i hi⟩
            rw [fl, hsz]; have := Nat.mul_le_mul_right sz hcap; simpa using this
          have := hr.row (i := 0) (n := l.length * sz) (by rw [fl]; omega)
          refine ⟨_, by simp only [newCells, hz, if_false]; rw [show (⟨b, 0, none⟩ : Addr) = (⟨b, 0, none⟩ : Addr).add 0 by rfl, this]; rfl, ?_⟩
          simp only [List.drop_zero, List.toList_toArray]
          rw [List.take_of_length_le (by rw [fl]; exact Nat.le_refl _)]
    obtain ⟨olds, h1, h2⟩ := holds
    refine ⟨_, olds, h1, ?_⟩
    intro b cap' tail hbn hc1 hc2 ht
    refine hK _ _ ⟨hl.new hbn _, some ⟨b, 0, none⟩, cap', by simp, by simpa using hc1, hc2, .inr ⟨b, olds ++ (l'.flatMap enc).toArray ++ tail, N.tid t, rfl, ?_, by simp [Heap.set], ?_, ?_⟩⟩
    · cases hh : h0 b with
      | none => rfl
      | some o => rw [hl b o hh] at hbn; cases hbn
    · have e1 : olds.size = l.length * sz := by rw [← Array.length_toList, h2, fl]
      have : (l.length + l'.length) * sz ≤ cap' * sz := Nat.mul_le_mul_right sz hc1
      simp only [Array.size_append, List.size_toArray, e1, fl', ht, Nat.sub_mul]
      rw [Nat.add_mul] at this ⊢
      omega
    · intro i hi
      have e : (olds ++ (l'.flatMap enc).toArray ++ tail)[i]? = ((l ++ l').flatMap enc ++ tail.toList)[i]? := by
        rw [← Array.getElem?_toList]
        simp [h2]
      rw [e, List.getElem?_append_left hi]
end Go.Cw
namespace Go.Cw
open Go
section
variable {N : Num} {Γ : Ctx} {Q : SE → Env → Heap → Prop} {env : Env} {h : Heap} {K : Env → Heap → Prop} {a b s : St} {i : Nat}
instance [GoodC Γ] [hq : MonoQ Q] : MonoQ (seqK N Γ b Q) where
  up := by
    intro e env env' h hl hx
    cases e with
    | normal => exact SW_mono GoodC.imp b (fun hl hx => MonoQ.up hl hx) hl hx
    | exit i => exact hq.up (e := .exit i) hl hx
    | ret => exact hq.up (e := .ret) hl hx
instance [hq : MonoQ Q] : MonoQ (blkK i Q) where
  up := by
    intro e env env' h hl hx
    cases e with
    | normal => exact hq.up (e := .normal) hl hx
    | exit j =>
      simp only [blkK] at hx ⊢
      split at hx
      · rename_i hj; simp only [hj, if_true]; exact hq.up hl hx
      · rename_i hj; simp only [hj, if_false]; exact hq.up hl hx
    | ret => exact hq.up (e := .ret) hl hx
instance {σ : Type} {E : σ → Env} {I : σ → Heap → Prop} {m : σ → Nat} {n : Nat} [hq : MonoQ Q] : MonoQ (loopK E I m n Q) where
  up := by
    intro e env env' h hl hx
    cases e with
    | normal => obtain ⟨s, h1, h2, h3⟩ := hx; exact ⟨s, h1, ele_trans _ _ _ h2 hl, h3⟩
    | exit i => exact hq.up (e := .exit i) hl hx
    | ret => exact hq.up (e := .ret) hl hx
instance {R : Env → Heap → Prop} [hq : MonoQ Q] : MonoQ (meetK R Q) where
  up := by
    intro e env env' h hl hx
    cases e with
    | normal => obtain ⟨s, h2, h3⟩ := hx; exact ⟨s, ele_trans _ _ _ h2 hl, h3⟩
    | exit i => exact hq.up (e := .exit i) hl hx
    | ret => exact hq.up (e := .ret) hl hx
instance {res : List Ex} {K : Value → Heap → Prop} : MonoQ (finK N res K) where
  up := by
    intro e env env' h hl hx
    cases e with
    | normal => obtain ⟨vs, h1, h2⟩ := hx; exact ⟨vs, evVals_mono hl _ h1, h2⟩
    | exit i => exact hx
    | ret => obtain ⟨vs, h1, h2⟩ := hx; exact ⟨vs, evVals_mono hl _ h1, h2⟩
theorem i_fun {F : SFun} {args : List Value} {K : Value → Heap → Prop} (hn : args.length = F.np) (hx : SW N Γ F.body (finK N F.res K) (env0 F.nv args) h) : SF N Γ F args h K := ⟨hn, hx⟩
theorem i_cond {p : Prop} [Decidable p] (ht : p → SW N Γ a Q env h) (hf : ¬p → SW N Γ b Q env h) : condW N Γ (some (.v (.bool (decide p)))) a b Q env h := by
  by_cases h : p
  · simp only [h, decide_true]; exact ht h
  · simp only [h, decide_false]; exact hf h
theorem i_cond_f {p : Prop} [Decidable p] (hp : ¬ p) (ht : SW N Γ b Q env h) : condW N Γ (some (.v (.bool (decide p)))) a b Q env h := by simp only [hp, decide_false]; exact ht
theorem i_loop {σ : Type} [GoodC Γ] [MonoQ Q] (E : σ → Env) (I : σ → Heap → Prop) (m : σ → Nat) (s0 : σ) (he : ele (E s0) env) (h0 : I s0 h)
    (hs : ∀ s h, I s h → SW N Γ b (loopK E I m (m s) Q) (E s) h) : SW N Γ (.loop b) Q env h := by
  refine ⟨fun n env h => ∃ s, m s = n ∧ ele (E s) env ∧ I s h, m s0, ⟨s0, rfl, he, h0⟩, ?_⟩
  rintro n env h ⟨s, rfl, he, hI⟩
  refine SW_mono GoodC.imp b (fun {x e e' h} hl hx => ?_) he (hs s h hI)
  cases x with
  | normal => obtain ⟨s', h1, h2, h3⟩ := hx; exact ⟨m s', h1, s', rfl, ele_trans _ _ _ h2 hl, h3⟩
  | exit i => exact MonoQ.up (Q := Q) (e := .exit i) hl hx
  | ret => exact MonoQ.up (Q := Q) (e := .ret) hl hx
theorem k_loop {σ : Type} {E : σ → Env} {I : σ → Heap → Prop} {m : σ → Nat} {n : Nat} (s : σ) (hm : m s < n) (he : ele (E s) env) (hI : I s h) : loopK E I m n Q .normal env h := ⟨s, hm, he, hI⟩
theorem i_meet [GoodC Γ] [MonoQ Q] (R : Env → Heap → Prop) (hb : ∀ env h, R env h → SW N Γ b Q env h) (hx : SW N Γ s (meetK R Q) env h) : SW N Γ s (seqK N Γ b Q) env h :=
  SW_mono GoodC.imp s (fun {x e e' h} hl hx => by
    cases x with
    | normal => obtain ⟨e0, h1, h2⟩ := hx; exact SW_mono GoodC.imp b (fun hl hx => MonoQ.up hl hx) (ele_trans _ _ _ h1 hl) (hb e0 h h2)
    | exit i => exact MonoQ.up (Q := Q) (e := .exit i) hl hx
    | ret => exact MonoQ.up (Q := Q) (e := .ret) hl hx) (ele_refl env) hx
theorem i_meet_blk [GoodC Γ] [MonoQ Q] (R : Env → Heap → Prop) (hb : ∀ env h, R env h → SW N Γ b Q env h) (hx : SW N Γ s (blkK i (meetK R Q)) env h) : SW N Γ s (blkK i (seqK N Γ b Q)) env h := i_meet (s := .block i s) R hb hx
theorem i_meet_cond [GoodC Γ] [MonoQ Q] (R : Env → Heap → Prop) {o : Option UV} {s' : St} (hb : ∀ env h, R env h → SW N Γ b Q env h) (hx : condW N Γ o s s' (meetK R Q) env h) :
    condW N Γ o s s' (seqK N Γ b Q) env h := by
  unfold condW at hx ⊢
  split at hx
  · exact i_meet R hb hx
  · exact i_meet R hb hx
  · exact hx.elim
theorem i_meet_cond_blk [GoodC Γ] [MonoQ Q] (R : Env → Heap → Prop) {o : Option UV} {s' : St} (hb : ∀ env h, R env h → SW N Γ b Q env h) (hx : condW N Γ o s s' (blkK i (meetK R Q)) env h) :
    condW N Γ o s s' (blkK i (seqK N Γ b Q)) env h := by
  unfold condW at hx ⊢
  split at hx
  · exact i_meet_blk R hb hx
  · exact i_meet_blk R hb hx
  · exact hx.elim
theorem i_meet_alt [GoodC Γ] [MonoQ Q] (R : Env → Heap → Prop) {d : DS} {ws : List Heap} (hb : ∀ env h, R env h → SW N Γ b Q env h) (hx : altW N Γ d ws env h (normK (meetK R Q))) : altW N Γ d ws env h (normK (seqK N Γ b Q)) :=
  dsW_mono GoodC.imp d (fun {e e' h} hl hx => by
    obtain ⟨e0, h1, h2⟩ := hx
    exact SW_mono GoodC.imp b (fun hl hx => MonoQ.up hl hx) (ele_trans _ _ _ h1 hl) (hb e0 h h2)) (ele_refl env) hx
theorem k_meet {R : Env → Heap → Prop} (env0 : Env) (he : ele env0 env) (hR : R env0 h) : meetK R Q .normal env h := ⟨env0, he, hR⟩
theorem i_alt {fl fl' : Bool} {wx wx' : List Let} {s s' : Stg} {r r' : DS} {ws : List Heap} (ha : stgW N Γ s env h (dsK N fl wx ws env h (dsC N Γ r K))) (hb : stgW N Γ s' env h (dsK N fl' wx' ws env h (dsC N Γ r' K))) : altW N Γ (.alt fl wx s r fl' wx' s' r') ws env h K := ⟨ha, hb⟩
theorem i_lew {ws : List Heap} {A : Prop} (ha : ∀ x ∈ ws, Heap.le x h) (hb : A) : leW ws h A := ⟨ha, hb⟩
theorem i_le {l : Let} {ls : List Let} {ws : List Heap} {r : DS} {e0 : Env} {h' : Heap} (ha : ∀ z ∈ h :: ws, Heap.le z h') (hb : dsW N Γ r (h :: ws) env h' K) : dsK N true (l :: ls) ws e0 h (dsC N Γ r K) env h' := ⟨h, .inl rfl, fun _ => ha, hb⟩
theorem i_lex (x : Heap) {l : Let} {ls : List Let} {ws : List Heap} {r : DS} {e0 : Env} {h' : Heap} (hx : Heap.le x h) (hc : ∀ l' ∈ l :: ls, covX N e0 x l') (ha : ∀ z ∈ x :: ws, Heap.le z h') (hb : dsW N Γ r (x :: ws) env h' K) : dsK N true (l :: ls) ws e0 h (dsC N Γ r K) env h' :=
  ⟨x, .inr ⟨hx, hc⟩, fun _ => ha, hb⟩
theorem le_one {x h : Heap} (h1 : Heap.le x h) : ∀ y ∈ [x], Heap.le y h := by intro y hy; simp at hy; subst hy; exact h1
theorem le_two {x y h : Heap} (h1 : Heap.le x h) (h2 : Heap.le y h) : ∀ z ∈ [x, y], Heap.le z h := by
  intro z hz; simp at hz; rcases hz with rfl | rfl <;> assumption
theorem i_call {S : Spec} {k : Nat} {us : List Value} {K : Value → Heap → Prop} (hs : Sat S (Γ k)) (hx : S us h K) : efW N Γ (.call k) us h K := hs _ _ _ hx
end
theorem Pe : (ele [] [] = True) ∧ (∀ e y e', ele (none :: e) (y :: e') = ele e e') ∧ (∀ x e y e', ele (some x :: e) (some y :: e') = (x = y ∧ ele e e')) := ⟨rfl, fun _ _ _ => rfl, fun _ _ _ _ => rfl⟩
namespace L
def v (i : Nat) : Ex := .var i
def p (i : Nat) : Ex := .pad i
def i (n : Int) : Ex := .con (.int .i64 n)
def t : Ex := .con (.bool true)
def z : Ex := .con (.bool false)
def c (x : Value) : Ex := .con x
def f (k : Nat) (x : Ex) : Ex := .o1 .ld (.o1 (.fadr k) x)
def d (x : Ex) : Ex := .o1 .ld x
def a (k : Nat) (x : Ex) : Ex := .o1 (.fadr k) x
def x (k : Nat) (y : Ex) : Ex := .o1 (.ext k) y
def n (x : Ex) : Ex := .o1 .nilck x
def o (k : O1) (x : Ex) : Ex := .o1 k x
def b (k : BinOp) (x y : Ex) : Ex := .o2 (.bin k) x y
def j (k : Nat) (x y : Ex) : Ex := .o2 (.iadr k) x y
def u (k m : Nat) (x y : Ex) : Ex := .o2 (.bput k m) x y
def o2 (k : O2) (x y : Ex) : Ex := .o2 k x y
def q (x y : St) : St := .seq x y
def l (i : Nat) (e : Ex) : Let := ⟨[], i, e⟩
def s (l : List Let) : Stg := ⟨l, none⟩
def r (k : Nat) (e : Ex) : St := .reg [⟨[⟨[], k, e⟩], none⟩]
def r1 (s : Stg) : St := .reg [s]
def k (f : Nat) (args : List Ex) (d : Nat) : Stg := ⟨[], some (.ef [] (.call f) args (some d))⟩
def e (f : Ef) (args : List Ex) (d : Nat) : Stg := ⟨[], some (.ef [] f args (some d))⟩
def w (k : Nat) (x : Ex) : Stg := ⟨[], some (.pnew k x)⟩
def h (x : Ex) (k : Nat) : St := .cond x .skip (.exit k)
def m (k : Nat) (x : St) : St := .block k (.loop x)
def y : Value := .int .i64 0
def y0 : Value := .string .empty
def g5 : Value := .agg #[y, y, y, y, y]
def g6 : Value := .agg #[y, y, y, y, y, y]
def g22 : Value := .agg #[y, y, y, y, y, y, y, y, y, y, y, y, y, y, y, y, y, y, y, y, y, y]
end L
theorem Ze : type_of% (And.intro L.v.eq_1 (And.intro L.p.eq_1 (And.intro L.i.eq_1 (And.intro L.t.eq_1 (And.intro L.z.eq_1 (And.intro L.c.eq_1 (And.intro L.f.eq_1 (And.intro L.d.eq_1 (And.intro L.a.eq_1 (And.intro L.x.eq_1 (And.intro L.n.eq_1 (And.intro L.o.eq_1 (And.intro L.b.eq_1 (And.intro L.j.eq_1 (And.intro L.u.eq_1 (And.intro L.o2.eq_1 (And.intro L.q.eq_1 (And.intro L.l.eq_1 (And.intro L.s.eq_1 (And.intro L.r.eq_1 (And.intro L.r1.eq_1 (And.intro L.k.eq_1 (And.intro L.e.eq_1 (And.intro L.w.eq_1 (And.intro L.h.eq_1 (And.intro L.m.eq_1 (And.intro L.y.eq_1 (And.intro L.y0.eq_1 (And.intro L.g5.eq_1 (And.intro L.g6.eq_1 (And.intro L.g22.eq_1 (And.intro env0.eq_1 (And.intro (@List.map_nil Value (Option Value)) (And.intro (@List.map_cons Value (Option Value)) (And.intro (@List.length_nil Value) (And.intro (@List.length_cons Value) (And.intro (@List.replicate_zero (Option Value)) (And.intro (@List.replicate_succ (Option Value)) (And.intro (@List.cons_append (Option Value)) (@List.nil_append (Option Value))))))))))))))))))))))))))))))))))))))))) :=
  ⟨L.v.eq_1, L.p.eq_1, L.i.eq_1, L.t.eq_1, L.z.eq_1, L.c.eq_1, L.f.eq_1, L.d.eq_1, L.a.eq_1, L.x.eq_1, L.n.eq_1, L.o.eq_1, L.b.eq_1, L.j.eq_1, L.u.eq_1, L.o2.eq_1, L.q.eq_1, L.l.eq_1, L.s.eq_1, L.r.eq_1, L.r1.eq_1, L.k.eq_1, L.e.eq_1, L.w.eq_1, L.h.eq_1, L.m.eq_1, L.y.eq_1, L.y0.eq_1, L.g5.eq_1, L.g6.eq_1, L.g22.eq_1, env0.eq_1, List.map_nil, List.map_cons, List.length_nil, List.length_cons, List.replicate_zero, List.replicate_succ, List.cons_append, List.nil_append⟩
theorem Pf : type_of% (And.intro Pe (And.intro and_true (And.intro true_and and_self))) := ⟨Pe, and_true, true_and, and_self⟩
theorem sE {A : Prop} (h : A := by simp only [Pf]) : A := h
theorem oM {A : Prop} (h : A := by omega) : A := h
theorem dM {A : Prop} (h : A := by dsimp only; omega) : A := h
theorem sw0 {A B : Prop} (b : B) (e : A = B := by (try simp (disch := first | omega | (simp only [PL]; omega)) only [Zr, simprocAttr, -reduceIte]); exact rfl) : A := e.mpr b
theorem sw1 {A B F0 : Prop} (f0 : F0) (b : B) (e : F0 → A = B := by intro f0; (try simp (disch := first | omega | (simp only [PL]; omega)) only [Zr, simprocAttr, -reduceIte, f0]); exact rfl) : A := (e f0).mpr b
theorem sw2 {A B F0 F1 : Prop} (f0 : F0) (f1 : F1) (b : B) (e : F0 → F1 → A = B := by intro f0 f1; (try simp (disch := first | omega | (simp only [PL]; omega)) only [Zr, simprocAttr, -reduceIte, f0, f1]); exact rfl) : A := (e f0 f1).mpr b
theorem sw3 {A B F0 F1 F2 : Prop} (f0 : F0) (f1 : F1) (f2 : F2) (b : B) (e : F0 → F1 → F2 → A = B := by intro f0 f1 f2; (try simp (disch := first | omega | (simp only [PL]; omega)) only [Zr, simprocAttr, -reduceIte, f0, f1, f2]); exact rfl) : A := (e f0 f1 f2).mpr b
theorem sw4 {A B F0 F1 F2 F3 : Prop} (f0 : F0) (f1 : F1) (f2 : F2) (f3 : F3) (b : B) (e : F0 → F1 → F2 → F3 → A = B := by intro f0 f1 f2 f3; (try simp (disch := first | omega | (simp only [PL]; omega)) only [Zr, simprocAttr, -reduceIte, f0, f1, f2, f3]); exact rfl) : A := (e f0 f1 f2 f3).mpr b
theorem sw5 {A B F0 F1 F2 F3 F4 : Prop} (f0 : F0) (f1 : F1) (f2 : F2) (f3 : F3) (f4 : F4) (b : B) (e : F0 → F1 → F2 → F3 → F4 → A = B := by intro f0 f1 f2 f3 f4; (try simp (disch := first | omega | (simp only [PL]; omega)) only [Zr, simprocAttr, -reduceIte, f0, f1, f2, f3, f4]); exact rfl) : A := (e f0 f1 f2 f3 f4).mpr b
theorem sw6 {A B F0 F1 F2 F3 F4 F5 : Prop} (f0 : F0) (f1 : F1) (f2 : F2) (f3 : F3) (f4 : F4) (f5 : F5) (b : B) (e : F0 → F1 → F2 → F3 → F4 → F5 → A = B := by intro f0 f1 f2 f3 f4 f5; (try simp (disch := first | omega | (simp only [PL]; omega)) only [Zr, simprocAttr, -reduceIte, f0, f1, f2, f3, f4, f5]); exact rfl) : A := (e f0 f1 f2 f3 f4 f5).mpr b
theorem sw7 {A B F0 F1 F2 F3 F4 F5 F6 : Prop} (f0 : F0) (f1 : F1) (f2 : F2) (f3 : F3) (f4 : F4) (f5 : F5) (f6 : F6) (b : B) (e : F0 → F1 → F2 → F3 → F4 → F5 → F6 → A = B := by intro f0 f1 f2 f3 f4 f5 f6; (try simp (disch := first | omega | (simp only [PL]; omega)) only [Zr, simprocAttr, -reduceIte, f0, f1, f2, f3, f4, f5, f6]); exact rfl) : A := (e f0 f1 f2 f3 f4 f5 f6).mpr b
theorem sw10 {A B F0 F1 F2 F3 F4 F5 F6 F7 F8 F9 : Prop} (f0 : F0) (f1 : F1) (f2 : F2) (f3 : F3) (f4 : F4) (f5 : F5) (f6 : F6) (f7 : F7) (f8 : F8) (f9 : F9) (b : B) (e : F0 → F1 → F2 → F3 → F4 → F5 → F6 → F7 → F8 → F9 → A = B := by intro f0 f1 f2 f3 f4 f5 f6 f7 f8 f9; (try simp (disch := first | omega | (simp only [PL]; omega)) only [Zr, simprocAttr, -reduceIte, f0, f1, f2, f3, f4, f5, f6, f7, f8, f9]); exact rfl) : A := (e f0 f1 f2 f3 f4 f5 f6 f7 f8 f9).mpr b
end Go.Cw
namespace Go.Cw
open Go
def encB (b : UInt8) : List Value := [.int .u8 b.toNat]
theorem encB_len (b : UInt8) : (encB b).length = 1 := rfl
theorem bytesOfCells_flat (l : List UInt8) : bytesOfCells (l.flatMap encB) = some l := by
  induction l with
  | nil => rfl
  | cons b l ih =>
    show (bytesOfCells (l.flatMap encB)).map (UInt8.ofNat (b.toNat : Int).toNat :: ·) = _
    rw [ih]; simp
theorem addr_zero {g : Addr} : g.add 0 = g := rfl
theorem Sl.row {α : Type} {enc : α → List Value} {sz : Nat} (he : ∀ x, (enc x).length = sz) {h : Heap} {a : Addr} {l : List α} (hr : rowAt h a (l.flatMap enc)) : h.row a (l.length * sz) = some (l.flatMap enc).toArray := by
  have := hr.row (i := 0) (n := l.length * sz) (by rw [flat_len he]; omega)
  rw [addr_zero] at this
  rw [this, List.drop_zero, List.take_of_length_le (by rw [flat_len he]; exact Nat.le_refl _)]
theorem b2s_sl {N : Num} {env : Env} {h : Heap} {v : Value} {l : List UInt8} (hs : Sl encB h v l) : o1V N env h .b2s (.v v) = some (.v (.string ⟨l.toArray⟩)) := by
  obtain ⟨a, cap, rfl, hcap, h1⟩ := hs
  rcases h1 with rfl | ⟨g, rfl, hr⟩
  · cases a with
    | none => rfl
    | some g =>
      simp [o1V, Heap.row, bytesOfCells]
  · have := Sl.row encB_len hr
    simp only [o1V]
    rw [Nat.mul_one] at this
    rw [this]
    simp [bytesOfCells_flat]
theorem newCells_sl {α : Type} {enc : α → List Value} {sz : Nat} (he : ∀ x, (enc x).length = sz) {h : Heap} {v : Value} {l : List α} (hs : Sl enc h v l) : newCells h sz v = some (l.length, (l.flatMap enc).toArray) := by
  obtain ⟨a, cap, rfl, hcap, h1⟩ := hs
  have fl := flat_len he l
  cases a with
  | none =>
    have : l = [] := by rcases h1 with h1 | ⟨g, h1, _⟩; exact h1; cases h1
    subst this; simp [newCells]
  | some g =>
    by_cases hz : l.length * sz = 0
    · have : l.flatMap enc = [] := List.eq_nil_of_length_eq_zero (by rw [fl]; exact hz)
      simp [newCells, hz, this]
    · rcases h1 with rfl | ⟨g', e, hr⟩
      · simp at hz
      · cases e
        simp only [newCells, hz, if_false, Sl.row he hr, Option.map_some]
end Go.Cw
namespace Go.Cw
open Go
def elt (v : Value) (n : Nat) : Addr := match v with
  | .slice (some a) _ _ => a.add n
  | _ => ⟨0, 0, none⟩
theorem Sl.rules {α : Type} {enc : α → List Value} (sz : Nat) (he : ∀ x, (enc x).length = sz) (d : α) {h : Heap} {v : Value} {l : List α} (hs : Sl enc h v l) :
    (∀ N env, o1V N env h .llen (.v v) = some (.v (.int .i64 l.length))) ∧
    (∀ k (n : Int), 0 ≤ n → n < (l.length : Int) → o2V h (.iadr sz) (.v v) (.v (.int k n)) = some (.v (.pointer (some (elt v (n.toNat * sz)))))) ∧
    (∀ i, i < l.length → h.row (elt v (i * sz)) sz = some (enc (l.getD i d)).toArray) ∧
    (∀ i j, i < l.length → j < sz → h.cell ((elt v (i * sz)).add j) = (enc (l.getD i d))[j]?) ∧
    (∀ i, i < l.length → 0 < sz → h.cell (elt v (i * sz)) = (enc (l.getD i d))[0]?) ∧ one v = true ∧ v.cells = #[v] ∧
    (0 < l.length → h.row (elt v 0) sz = some (enc (l.getD 0 d)).toArray) ∧ (∀ j, 0 < l.length → j < sz → h.cell ((elt v 0).add j) = (enc (l.getD 0 d))[j]?) ∧ (0 < l.length → 0 < sz → h.cell (elt v 0) = (enc (l.getD 0 d))[0]?) := by
  obtain ⟨a, cap, rfl, hcap, hr⟩ := hs
  have hne : ∀ i, i < l.length → ∃ g, a = some g ∧ rowAt h g (l.flatMap enc) := by
    intro i hi
    exact hr.resolve_left (by intro e; rw [e] at hi; cases hi)
  have hg : ∀ i (hi : i < l.length), l.getD i d = l[i] := by intro i hi; simp [List.getD_eq_getElem?_getD, hi]
  have k3 : ∀ i, i < l.length → h.row (elt (.slice a l.length cap) (i * sz)) sz = some (enc (l.getD i d)).toArray := by
    intro i hi
    obtain ⟨g, rfl, hrow⟩ := hne i hi
    rw [hg i hi]
    exact Sl.elem he hrow hi
  have k4 : ∀ i j, i < l.length → j < sz → h.cell ((elt (.slice a l.length cap) (i * sz)).add j) = (enc (l.getD i d))[j]? := by
    intro i j hi hj
    obtain ⟨g, rfl, hrow⟩ := hne i hi
    rw [hg i hi, List.getElem?_eq_getElem (by rw [he]; exact hj)]
    exact Sl.field he hrow hi hj
  have k5 : ∀ i, i < l.length → 0 < sz → h.cell (elt (.slice a l.length cap) (i * sz)) = (enc (l.getD i d))[0]? := by
    intro i hi hj
    obtain ⟨g, rfl, hrow⟩ := hne i hi
    rw [hg i hi, List.getElem?_eq_getElem (by rw [he]; exact hj)]
    exact Sl.field he hrow hi hj
  refine ⟨fun _ _ => rfl, ?_, k3, k4, k5, rfl, rfl, fun hi => by simpa using k3 0 hi, fun j hi hj => by simpa using k4 0 j hi hj, fun hi hj => by simpa using k5 0 hi hj⟩
  intro k n h0 h1
  obtain ⟨g, rfl, _⟩ := hne n.toNat oM
  have hb : inBounds n l.length = true := by simp [inBounds, h0, h1]
  simp only [o2V, hb, if_true, elt]
theorem Sl.rules1 {α : Type} {enc : α → List Value} (e1 : α → Value) (he : ∀ x, enc x = [e1 x]) (d : α) {h : Heap} {v : Value} {l : List α} (hs : Sl enc h v l) :
    (∀ N env, o1V N env h .llen (.v v) = some (.v (.int .i64 l.length))) ∧
    (∀ k (n : Int), 0 ≤ n → n < (l.length : Int) → o2V h (.iadr 1) (.v v) (.v (.int k n)) = some (.v (.pointer (some (elt v n.toNat))))) ∧
    (∀ i, i < l.length → h.cell (elt v i) = some (e1 (l.getD i d))) ∧ Cw.one v = true ∧ v.cells = #[v] := by
  obtain ⟨h1, h2, h3, h4, h5, h6, h7, _⟩ := hs.rules 1 (fun x => by rw [he]; rfl) d
  refine ⟨h1, fun k n a b => by have := h2 k n a b; simpa using this, fun i hi => ?_, h6, h7⟩
  have := h5 i hi oM
  rw [Nat.mul_one, he] at this
  simpa using this
theorem Sl.one {α : Type} {enc : α → List Value} {h : Heap} {v : Value} {l : List α} (hs : Sl enc h v l) : Cw.one v = true ∧ v.cells = #[v] := by
  obtain ⟨a, cap, rfl, hcap, hr⟩ := hs; exact ⟨rfl, rfl⟩
theorem OwnS.one {α : Type} {enc : α → List Value} {sz : Nat} {h0 h : Heap} {v : Value} {l : List α} (hs : OwnS enc sz h0 h v l) : Cw.one v = true ∧ v.cells = #[v] := by
  obtain ⟨_, a, cap, rfl, hcap, hr⟩ := hs; exact ⟨rfl, rfl⟩
theorem take_succ_d {α : Type} (d : α) {l : List α} {i : Nat} (hi : i < l.length) : l.take (i + 1) = l.take i ++ [l.getD i d] := by
  rw [List.take_succ_eq_append_getElem hi]; simp [List.getD_eq_getElem?_getD, hi]
theorem getD_mem {α : Type} (d : α) {l : List α} {i : Nat} (hi : i < l.length) : l.getD i d ∈ l := by
  simp [List.getD_eq_getElem?_getD, hi]
def encI (n : Int) : List Value := [.int .i64 n]
theorem Sl.b2s {h : Heap} {v : Value} {l : List UInt8} (hs : Sl encB h v l) (N : Num) (env : Env) : o1V N env h .b2s (.v v) = some (.v (.string (str l))) := b2s_sl hs
end Go.Cw
namespace Go.Cw
open Go
theorem OwnS.le {α : Type} {enc : α → List Value} {sz : Nat} {h0 h h' : Heap} {v : Value} {l : List α} (ho : OwnS enc sz h0 h v l) (hl : Heap.le h h') : OwnS enc sz h0 h' v l := by
  obtain ⟨h1, a, cap, h2, h3, h4, h5⟩ := ho
  refine ⟨h1.trans hl, a, cap, h2, h3, h4, h5.imp id ?_⟩
  rintro ⟨b, c, t, a1, a2, a3, a4⟩
  exact ⟨b, c, t, a1, a2, hl _ _ a3, a4⟩
theorem OwnS.base {α : Type} {enc : α → List Value} {sz : Nat} {h0 h1 h : Heap} {v : Value} {l : List α} (ho : OwnS enc sz h1 h v l) (hl : Heap.le h0 h1) : OwnS enc sz h0 h v l := by
  obtain ⟨a0, a, cap, h2, h3, h4, h5⟩ := ho
  refine ⟨hl.trans a0, a, cap, h2, h3, h4, h5.imp id ?_⟩
  rintro ⟨b, c, t, a1, a2, a3, a4⟩
  refine ⟨b, c, t, a1, ?_, a3, a4⟩
  cases hh : h0 b with
  | none => rfl
  | some o => rw [hl b o hh] at a2; cases a2
theorem i_bslS {α : Type} (enc : α → List Value) (sz : Nat) (he : ∀ x, (enc x).length = sz) (l : List α) {N : Num} {Γ : Ctx} {h : Heap} {t n : Nat} {c : Array Value} {K : Value → Heap → Prop} (hc : c.toList = l.flatMap enc) (hn : n = l.length) (hm : l.length ≤ maxLen)
    (hx : ∀ v h', Heap.le h h' → OwnS enc sz h h' v l → K v h') : efW N Γ (.bsl t n) [.agg c] h K := by
  subst hn
  intro b hb
  refine hx _ _ ((Heap.le.refl h).new hb _) ⟨(Heap.le.refl h).new hb _, _, _, rfl, Nat.le_refl _, hm, .inr ⟨b, c, N.tid t, rfl, hb, by simp [Heap.set], ?_, ?_⟩⟩
  · rw [← Array.length_toList, hc, flat_len he]
  · intro i hi
    rw [← Array.getElem?_toList, hc]
theorem i_app {α : Type} {enc : α → List Value} {sz : Nat} (he : ∀ x, (enc x).length = sz) (hone : ∀ x, (enc x).all one = true) {N : Num} {Γ : Ctx} {h0 h : Heap} {t bytes : Nat} {v x : Value} {l l' : List α}
    (ho : OwnS enc sz h0 h v l) (hx : Sl enc h x l') (hlen : (l.length + l'.length) * (bytes + 1) ≤ 1073741824) {K : Value → Heap → Prop}
    (hK : ∀ v' h', OwnS enc sz h0 h' v' (l ++ l') → K v' h') : efW N Γ (.app t sz bytes) [v, x] h K :=
  app_own he (fun x _ => hone x) ho (newCells_sl he hx) hlen hK
theorem i_app1 {α : Type} {enc : α → List Value} {sz : Nat} (he : ∀ x, (enc x).length = sz) {N : Num} {Γ : Ctx} {h0 h : Heap} {t bytes : Nat} {v x : Value} {l l' : List α} (hone : ∀ x ∈ l', (enc x).all one = true)
    (ho : OwnS enc sz h0 h v l) (hx : Sl enc h x l') (hlen : (l.length + l'.length) * (bytes + 1) ≤ 1073741824) {K : Value → Heap → Prop}
    (hK : ∀ v' h', OwnS enc sz h0 h' v' (l ++ l') → K v' h') : efW N Γ (.app t sz bytes) [v, x] h K :=
  app_own he hone ho (newCells_sl he hx) hlen hK
theorem Sl.nil {α : Type} {enc : α → List Value} {h : Heap} {a : Option Addr} {c : Nat} : Sl enc h (.slice a 0 c) ([] : List α) := ⟨a, c, rfl, by simp, .inl rfl⟩
def errV (N : Num) (k : Nat) : Value := if k = 0 then .nilIface else .iface (N.tid 111) (.int .i64 k)
theorem errV_zero (N : Num) : errV N 0 = .nilIface := rfl
theorem errV_succ (N : Num) (k : Nat) : errV N (k + 1) = .iface (N.tid 111) (.int .i64 (k + 1 : Nat)) := rfl
theorem errV_pos (N : Num) {k : Nat} (h : k ≠ 0) : errV N k = .iface (N.tid 111) (.int .i64 k) := by simp [errV, h]
theorem errV_eq (N : Num) : (∀ k h, o2V h (.eqv .iface true) (.v (errV N k)) (.v .nilIface) = some (.v (.bool (decide (k ≠ 0))))) ∧ (∀ k h, o2V h (.eqv .iface false) (.v (errV N k)) (.v .nilIface) = some (.v (.bool (decide (k = 0))))) := by
  constructor <;> (intro k h; unfold errV; split <;> simp [o2V, eqV, *])
theorem str_beq (a b : List UInt8) : (str a == str b) = decide (a = b) := by
  rw [ba_beq]
  simp only [str]
  rw [Bool.eq_iff_iff]
  simp
theorem cellsEq_int (k : IntKind) (ks : List Bk) (a b : Int) (xs ys : List Value) : cellsEq (.int :: ks) (.int k a :: xs) (.int k b :: ys) = if a = b then cellsEq ks xs ys else some false := by
  simp only [cellsEq, cellEq, if_true]
  by_cases e : a = b
  · subst e; simp
  · have : (a == b) = false := by simpa using e
    rw [this]; simp [e]
theorem cellsEq_str (ks : List Bk) (a b : List UInt8) (xs ys : List Value) : cellsEq (.str :: ks) (.string (str a) :: xs) (.string (str b) :: ys) = if a = b then cellsEq ks xs ys else some false := by
  simp only [cellsEq, cellEq, str_beq]
  by_cases e : a = b <;> simp [e]
theorem cellsEq_nil : cellsEq [] [] [] = some true := rfl
def b8 (n : Int) : UInt8 := UInt8.ofNat (n % 256).toNat
theorem b8_val (n : Int) : ((b8 n).toNat : Int) = n % 256 := by
  have h : (n % 256).toNat < 256 := oM
  simp only [b8, UInt8.toNat_ofNat', Nat.mod_eq_of_lt h]
  omega
theorem b8_u (b : UInt8) : b8 (b.toNat : Int) = b := by
  apply UInt8.toNat_inj.1
  have := b8_val (b.toNat : Int)
  have h2 : b.toNat < 256 := b.toNat_lt
  omega
end Go.Cw
namespace Go.Cw
open Go L
def F2 : SFun := ⟨0,0,(r1 ⟨[],some (.ef [] (.call 1) [] none)⟩),[]⟩
def F3 : SFun := ⟨4,20,(q (r 4 z) (q (.reg [(k 11 [] 10),(s [(l 5 (v 10))])]) (q (q (.reg [⟨[(l 11 (o .not (v 5)))],some (.ef [((o .not (v 5)),false)] (.call 12) [(v 2)] (some 12))⟩,(s [(l 13
 (.pick (.pick (v 11) t (o .not (v 12))) t (b .gtr (o .slen (v 3)) (i 20))))])]) (.cond (v 13) (q (r 4 (v 5)) .ret) .skip)) (q (.reg [(k 13 [(v 0),(v 1),(v 2)] 14),(s [(l 5 (x 3 (v
 14))),(l 6 (x 0 (v 14))),(l 7 (x 1 (v 14))),(l 8 (x 2 (v 14)))])]) (q (q (r 15 (.pick (v 8) t (o .not (v 5)))) (.cond (v 15) (q (r 4 (v 5)) .ret) .skip)) (q (.reg [(k 14 [(v 7),(o
 .llen (f 2 (n (v 7))))] 16),(e (.bsl 9 1) [(u 0 1 (c (.agg #[y0])) (v 3))] 17),(e (.app 9 1 16) [(v 16),(v 17)] 18),(s [(l 9 (v 18))])]) (q (.reg [(k 15 [(v 6),(v 7),(v 9)] 19),(s
 [(l 4 (v 19))])]) .ret))))))),[(v 4)]⟩
def F4 : SFun := ⟨1,33,(q (.reg [(w 1 (v 0)),(s [(l 2 z)])]) (q (.reg [(k 16 [] 8),(s [(l 3 (v 8))])]) (q (q (r 9 (.pick (o .not (v 3)) t (b .gtr (o .llen (f 1 (p 1))) (i 10)))) (.cond (v 9) (q (r
 2 (v 3)) .ret) .skip)) (q (.reg [⟨[(l 10 (o (.ldn 3) (p 1)))],some (.pnew 4 (c (.agg #[y,(.slice none 0 0),y])))⟩,⟨[],some (.pst 4 (.upd (.cnt 4) 4 3 (p 4) (v 10)))⟩]) (q (.dreg
 (.alt true [(l 0 (f 1 (p 1)))] ⟨[(l 11 (f 1 (p 1))),(l 13 (u 2 1 (c (.agg #[y,y,y,y0])) (i 77))),(l 16 (o .llen (f 1 (p 1))))],some (.ef [] (.app 40 4 40) [(c (.slice none 0 0)),(f
 1 (p 1))] (some 12))⟩ (.eff true [] (e (.bsl 40 1) [(u 0 4 (c (.agg #[y,y,y,y0])) (v 13))] 14) (.eff true [] (e (.app 40 4 40) [(v 12),(v 14)] 15) (.eff false [] ⟨[],some (.pst 4
 (.upd (.cnt 4) 4 1 (a 1 (p 4)) (.o3 (.lsl 4) (v 15) (i 0) (v 16))))⟩ (.done (s []))))) true [(l 0 (f 1 (p 1))),(l 0 (f 1 (p 1)))] ⟨[(l 11 (f 1 (p 1))),(l 13 (u 2 1 (c (.agg
 #[y,y,y,y0])) (i 77))),(l 16 (o .llen (f 1 (p 1))))],some (.ef [] (.bsl 40 1) [(u 0 4 (c (.agg #[y,y,y,y0])) (u 2 1 (c (.agg #[y,y,y,y0])) (i 77)))] (some 14))⟩ (.eff true [] (e
 (.app 40 4 40) [(c (.slice none 0 0)),(v 11)] 12) (.eff true [] (e (.app 40 4 40) [(v 12),(v 14)] 15) (.eff false [] ⟨[],some (.pst 4 (.upd (.cnt 4) 4 1 (a 1 (p 4)) (.o3 (.lsl 4)
 (v 15) (i 0) (v 16))))⟩ (.done (s []))))))) (q (.reg [(k 17 [(o (.ldn 3) (p 1))] 17),(s [(l 5 (v 17))])]) (q (.reg [(k 18 [(o (.ldn 3) (p 4))] 18),(s [(l 6 (x 0 (v 18))),(l 7 (x 1
 (v 18)))])]) (q (q (.reg [(k 20 [(o (.ldn 3) (p 4))] 19),(k 19 [(v 19),(v 5)] 20),⟨[(l 21 (o .not (v 20)))],some (.ef [((o .not (v 20)),false)] (.call 19) [(v 7),(v 5)] (some
 22))⟩,⟨[(l 23 (.pick (v 21) t (o .not (v 22))))],some (.ef [((.pick (v 21) t (o .not (v 22))),false)] (.bsl 38 1) [(u 0 3 (c (.agg #[y,(.slice none 0 0),y])) (o (.ldn 3) (p 4)))]
 (some 24))⟩,⟨[],some (.ef [((v 23),false)] (.bsl 38 1) [(u 0 3 (c (.agg #[y,(.slice none 0 0),y])) (o (.ldn 3) (p 1)))] (some 25))⟩,⟨[],some (.ef [((v 23),false)] (.call 21) [(v
 24),(v 25)] (some 26))⟩,(s [(l 27 (.pick (v 23) t (o .not (v 26))))])]) (.cond (v 27) (q (r 2 z) .ret) .skip)) (q (.reg [⟨[(l 28 (.pick (b .gtr (v 5) (i 0)) (b .eql (v 6) (c y0))
 z)),⟨[((.pick (b .gtr (v 5) (i 0)) (b .eql (v 6) (c y0)) z),false)],29,(b .eql (v 5) (i 0))⟩,⟨[((.pick (b .gtr (v 5) (i 0)) (b .eql (v 6) (c y0)) z),false),((b .eql (v 5) (i
 0)),true)],30,(v 6)⟩],some (.ef [((.pick (b .gtr (v 5) (i 0)) (b .eql (v 6) (c y0)) z),false),((b .eql (v 5) (i 0)),true)] (.call 22) [(o (.ldn 3) (p 1))] (some 31))⟩,(s [(l 2
 (.pick (v 28) t (.pick (v 29) (b .eql (v 30) (v 31)) z))),⟨[((v 29),true)],32,(b .eql (v 30) (v 31))⟩])]) .ret))))))))),[(v 2)]⟩
def F5 : SFun := ⟨1,28,(q (r 1 z) (q (.reg [(k 16 [] 9),(s [(l 2 (v 9))])]) (q (q (r 10 (.pick (o .not (v 2)) t (b .gtr (o .llen (v 0)) (i 40)))) (.cond (v 10) (q (r 1 (v 2)) .ret) .skip)) (q (.reg
 [(e (.new 54) [(c (.agg #[y0,y]))] 11),(s [(l 3 (v 11))])]) (q (.reg [(e (.new 57) [(c (.agg #[y0,y]))] 12),(s [(l 4 (v 12))])]) (q (q (r 5 (i 0)) (m 0 (q (q (r 13 (b .lss (v 5) (o
 .llen (v 0)))) (h (v 13) 0)) (q (.block 1 (q (q (r 14 (b .gtr (o .slen (d (j 1 (v 0) (v 5)))) (i 500))) (.cond (v 14) (q (r 1 t) .ret) .skip)) (q (q (r 15 (b .eql (b .rem (v 5) (i
 3)) (i 2))) (.cond (v 15) (q (.reg [(k 23 [(v 3)] 16),(s [(l 6 (v 16))])]) (q (q (r 17 (o2 (.eqv .ptr false) (v 6) (c (.pointer none)))) (.cond (v 17) (q (r 1 z) .ret) .skip)) (q
 (r1 ⟨[],some (.ef [] (.call 24) [(v 3),(c (.string ⟨#[111,116,104,101,114]⟩))] none)⟩) (r 3 (v 6))))) .skip)) (q (.reg [(k 24 [(v 3),(d (j 1 (v 0) (v 5)))] 18),(s [(l 7 (v 18))])])
 (q (.reg [(k 25 [(v 4),(d (j 1 (v 0) (v 5)))] 19),(s [(l 8 (v 19))])]) (q (.dreg (.eff false [] (k 21 [(v 7),(v 8)] 20) (.eff true [⟨[((o .not (v 20)),false)],0,(f 1 (n (v 4)))⟩]
 ⟨[(l 21 (o .not (v 20))),⟨[((o .not (v 20)),false)],23,(f 1 (n (v 4)))⟩],some (.ef [((o .not (v 20)),false)] (.call 26) [(v 3)] (some 22))⟩ (.eff true [⟨[((.pick (v 21) t (b .neq
 (v 22) (v 23))),false)],0,(f 0 (n (v 4)))⟩] ⟨[(l 24 (.pick (v 21) t (b .neq (v 22) (v 23)))),⟨[((.pick (v 21) t (b .neq (v 22) (v 23))),false)],26,(o .slen (f 0 (n (v 4))))⟩],some
 (.ef [((.pick (v 21) t (b .neq (v 22) (v 23))),false)] (.call 27) [(v 3)] (some 25))⟩ (.done (s [(l 27 (.pick (v 24) t (b .neq (v 25) (v 26))))])))))) (.cond (v 27) (q (r 1 z)
 .ret) .skip))))))) (r 5 (b .add (v 5) (i 1))))))) (q (r 1 t) .ret))))))),[(v 1)]⟩
def F7 : SFun := ⟨3,43,(q (r 3 z) (q (.reg [(k 32 [] 14),(s [(l 4 (v 14))])]) (q (q (r 15 (.pick (o .not (v 4)) t (b .gtr (o .llen (v 2)) (i 120)))) (.cond (v 15) (q (r 3 (v 4)) .ret) .skip)) (q
 (.reg [(k 33 [(v 0),(v 1)] 16),(s [(l 5 (x 0 (v 16))),(l 6 (x 1 (v 16)))])]) (q (q (r 17 (.pick (.pick (.pick (b .lss (v 0) (i 1)) t (b .gtr (v 0) (i 50))) t (b .lss (v 1) (i 0)))
 t (b .gtr (v 1) (i 50)))) (.cond (v 17) (q (.reg [(k 19 [(v 6),(i 1)] 18),(s [(l 3 (.pick (v 18) (o2 (.eqv .ptr false) (v 5) (c (.pointer none))) z))])]) .ret) .skip)) (q (q (r 19
 (.pick (o2 (.eqv .iface true) (v 6) (c .nilIface)) t (o2 (.eqv .ptr false) (v 5) (c (.pointer none))))) (.cond (v 19) (q (r 3 z) .ret) .skip)) (q (.reg [(e (.new 78) [(u 1 1 (u 0 1
 (c (.agg #[y,y,y,(.slice none 0 0)])) (v 0)) (v 1))] 20),(s [(l 7 (v 20))])]) (q (q (r 8 (i 0)) (m 0 (q (q (r 21 (b .lss (v 8) (o .llen (v 2)))) (h (v 21) 0)) (q (.block 1 (q (.reg
 [⟨[(l 22 (o (.ldn 7) (j 7 (v 2) (v 8))))],some (.pnew 9 (c (.agg #[y0,y,y0,y,y,y,y0])))⟩,⟨[],some (.pst 9 (.upd (.cnt 9) 9 7 (p 9) (v 22)))⟩]) (q (q (r 23 (b .eql (f 0 (p 9)) (c
 (.string ⟨#[116,105,99,107]⟩)))) (.cond (v 23) (q (.reg [(k 34 [(v 5),(f 1 (p 9))] 24),(s [(l 10 (x 0 (v 24))),(l 11 (x 1 (v 24)))])]) (q (.reg [(k 35 [(v 7),(f 1 (p 9))] 25),(s
 [(l 12 (x 0 (v 25))),(l 13 (x 1 (v 25)))])]) (q (.reg [(k 19 [(v 11),(v 13)] 26),⟨[(l 27 (o .not (v 26)))],some (.ef [((o .not (v 26)),false)] (.call 36) [(v 10),(v 12)] (some
 28))⟩,(s [(l 29 (.pick (v 27) t (o .not (v 28))))])]) (.cond (v 29) (q (r 3 z) .ret) .skip)))) (q (.dreg (.eff true [(l 0 (o (.ldn 4) (a 3 (p 9))))] ⟨[(l 31 (v 7)),(l 32 (o (.ldn
 4) (a 3 (p 9))))],some (.ef [] (.call 37) [(v 5),(o (.ldn 4) (a 3 (p 9)))] (some 30))⟩ (.eff false [] (k 38 [(v 31),(v 32)] 33) (.eff false [] (k 19 [(v 30),(v 33)] 34) (.done (s
 [(l 35 (o .not (v 34)))])))))) (.cond (v 35) (q (r 3 z) .ret) .skip)))) (q (.dreg (.eff true [(l 0 (f 2 (n (v 7))))] ⟨[(l 37 (f 2 (n (v 7))))],some (.ef [] (.call 39) [(v 5)] (some
 36))⟩ (.eff false [] ⟨[(l 38 (b .neq (v 36) (v 37))),⟨[((b .neq (v 36) (v 37)),false)],40,(v 7)⟩],some (.ef [((b .neq (v 36) (v 37)),false)] (.call 40) [(v 5)] (some 39))⟩ (.eff
 false [] ⟨[],some (.ef [((v 38),false)] (.call 41) [(v 40)] (some 41))⟩ (.done (s [(l 42 (.pick (v 38) t (b .neq (v 39) (v 41))))])))))) (.cond (v 42) (q (r 3 z) .ret) .skip)))))
 (r 8 (b .add (v 8) (i 1))))))) (q (r 3 t) .ret))))))))),[(v 3)]⟩
def F24 : SFun := ⟨2,17,(q (r 2 (c (.slice none 0 0))) (q (r 3 (c (.slice none 0 0))) (q (r 1 (b .add (f 0 (n (v 0))) (v 1))) (q (m 0 (q (q (r 7 (b .neq (v 1) (c y0))) (h (v 7) 0)) (.block 1 (q
 (.reg [(k 57 [(v 1)] 8),⟨[(l 9 (x 0 (v 8))),(l 10 (x 1 (v 8))),(l 11 (x 2 (v 8)))],some (.pnew 4 (c (.agg #[y,(.slice none 0 0),y])))⟩,⟨[],some (.pst 4 (.upd (.cnt 4) 4 3 (p 4) (v
 9)))⟩,(s [(l 5 (v 10)),(l 6 (v 11))])]) (q (q (r 12 (v 6)) (.cond (v 12) (.exit 0) .skip)) (q (q (r 13 (b .eql (v 5) (i 0))) (.cond (v 13) (q (r1 ⟨[],some (.ef [] (.st 1) [(a 1 (n
 (v 0))),(b .add (f 1 (n (v 0))) (i 1))] none)⟩) (q (r 1 (.o3 .ssl (v 1) (i 1) (o .slen (v 1)))) (.exit 1))) .skip)) (q (.reg [⟨[(l 14 (v 3))],some (.ef [] (.bsl 38 1) [(u 0 3 (c
 (.agg #[y,(.slice none 0 0),y])) (o (.ldn 3) (p 4)))] (some 15))⟩,(e (.app 38 3 40) [(v 14),(v 15)] 16),(s [(l 3 (v 16))])]) (r 1 (.o3 .ssl (v 1) (v 5) (o .slen (v 1))))))))))) (q
 (r1 ⟨[],some (.ef [] (.st 1) [(a 0 (n (v 0))),(v 1)] none)⟩) (q (r 2 (v 3)) .ret)))))),[(v 2)]⟩
def F28 : SFun := ⟨2,9,(q (r1 (s [(l 2 (c (.pointer none))),(l 3 (c .nilIface))])) (q (q (r 4 (.pick (.pick (.pick (b .lss (v 0) (i 1)) t (b .gtr (v 0) (i 8))) t (b .lss (v 1) (i 1))) t (b .gtr (v
 1) (v 0)))) (.cond (v 4) (q (r1 (s [(l 2 (c (.pointer none))),(l 3 (o (.iface 111) (i 1)))])) .ret) .skip)) (q (.reg [⟨[(l 5 (v 0)),(l 6 (v 1))],some (.ef [] .mnew [] (some 7))⟩,(e
 (.new 121) [(u 3 1 (u 1 1 (u 0 1 (c (.agg #[y,y,(.slice none 0 0),(.map none)])) (v 5)) (v 6)) (v 7))] 8),(s [(l 2 (v 8)),(l 3 (c .nilIface))])]) .ret))),[(v 2),(v 3)]⟩
def F29 : SFun := ⟨2,45,(q (r 2 (c .nilIface)) (q (.reg [(e .mnew [] 8),(s [(l 3 (v 8))])]) (q (q (r1 (s [(l 9 (v 1)),(l 10 (o .llen (v 1))),(l 11 (i 0))])) (m 0 (q (r 12 (b .lss (v 11) (v 10))) (q
 (h (v 12) 0) (q (.block 1 (q (.reg [⟨[(l 13 (o (.ldn 4) (j 4 (v 9) (v 11))))],some (.pnew 4 (c (.agg #[y,y,y,y0])))⟩,⟨[],some (.pst 4 (.upd (.cnt 4) 4 4 (p 4) (v 13)))⟩]) (q (q (r
 14 (.pick (.pick (.pick (b .lss (f 0 (p 4)) (i 0)) t (b .geq (f 0 (p 4)) (i 8))) t (b .lss (f 1 (p 4)) (i 0))) t (b .gtr (f 1 (p 4)) (i 255)))) (.cond (v 14) (q (r 2 (o (.iface
 111) (i 1))) .ret) .skip)) (q (q (r 15 (o2 (.eqv .map false) (o2 (.lkp .str (.map none)) (v 3) (f 3 (p 4))) (c (.map none)))) (.cond (v 15) (.reg [⟨[(l 16 (v 3)),(l 17 (f 3 (p
 4)))],some (.ef [] .mnew [] (some 18))⟩,⟨[],some (.ef [] (.mupd .str) [(v 16),(v 17),(v 18)] none)⟩]) .skip)) (r1 ⟨[],some (.ef [] (.mupd .int) [(o2 (.lkp .str (.map none)) (v 3)
 (f 3 (p 4))),(f 0 (p 4)),(b .add (o2 (.lkp .int y) (o2 (.lkp .str (.map none)) (v 3) (f 3 (p 4))) (f 0 (p 4))) (f 1 (p 4)))] none)⟩))))) (r 11 (b .add (v 11) (i 1)))))))) (q (.reg
 [⟨[(l 19 (v 0)),(l 20 (f 2 (n (v 0))))],some (.ef [] (.bsl 122 1) [(u 0 1 (c (.agg #[(.map none)])) (v 3))] (some 21))⟩,(e (.app 122 1 8) [(v 20),(v 21)] 22),⟨[],some (.ef [] (.st
 1) [(a 2 (n (v 19))),(v 22)] none)⟩]) (q (q (r1 (e .rng [(v 3)] 23)) (m 2 (q (.reg [(e .nxt [(v 23)] 24),(s [(l 25 (x 0 (v 24)))])]) (q (h (v 25) 2) (.block 3 (q (.reg [(e .ent [(v
 23)] 26),(s [(l 5 (x 0 (v 26)))])]) (q (r 27 (o2 (.eqv .slice false) (o2 (.lkp .str (.slice none 0 0)) (f 3 (n (v 0))) (v 5)) (c (.slice none 0 0)))) (.cond (v 27) (.reg [⟨[(l 28
 (f 3 (n (v 0)))),(l 29 (v 5))],some (.ef [] (.bsl 3 0) [(c (.agg #[]))] (some 30))⟩,⟨[],some (.ef [] (.mupd .str) [(v 28),(v 29),(v 30)] none)⟩]) .skip)))))))) (q (q (r1 (e .rng
 [(f 3 (n (v 0)))] 31)) (m 4 (q (.reg [(e .nxt [(v 31)] 32),(s [(l 33 (x 0 (v 32)))])]) (q (h (v 33) 4) (.block 5 (q (.reg [(e .ent [(v 31)] 34),(s [(l 6 (x 0 (v 34))),(l 7 (x 1 (v
 34)))])]) (q (m 6 (q (q (r 35 (b .lss (o .llen (v 7)) (b .sub (o .llen (f 2 (n (v 0)))) (i 1)))) (h (v 35) 6)) (.block 7 (.reg [⟨[(l 36 (v 7))],some (.ef [] (.bsl 3 1) [(u 0 1 (c
 (.agg #[y])) (i (-1)))] (some 37))⟩,(e (.app 3 1 8) [(v 36),(v 37)] 38),(s [(l 7 (v 38))])])))) (.dreg (.eff true [(l 0 (f 3 (n (v 0))))] ⟨[(l 39 (f 3 (n (v 0)))),(l 40 (v 6)),(l
 41 (v 7))],some (.ef [] (.call 60) [(v 0),(v 6)] (some 42))⟩ (.eff true [] (e (.bsl 3 1) [(u 0 1 (c (.agg #[y])) (v 42))] 43) (.eff true [] (e (.app 3 1 8) [(v 41),(v 43)] 44)
 (.eff false [] ⟨[],some (.ef [] (.mupd .str) [(v 39),(v 40),(v 44)] none)⟩ (.done (s [])))))))))))))) (q (r 2 (c .nilIface)) .ret))))))),[(v 2)]⟩
def F30 : SFun := ⟨3,9,(q (r1 (s [(l 3 (i 0)),(l 4 (c .nilIface))])) (q (q (r 7 (.pick (b .lss (v 2) (i 0)) t (b .geq (v 2) (o .llen (f 2 (n (v 0))))))) (.cond (v 7) (q (r1 (s [(l 3 (i 0)),(l 4 (o
 (.iface 111) (i 1)))])) .ret) .skip)) (q (r1 (s [(l 5 (x 0 (o2 (.lkpo .str (.slice none 0 0)) (f 3 (n (v 0))) (v 1)))),(l 6 (x 1 (o2 (.lkpo .str (.slice none 0 0)) (f 3 (n (v 0)))
 (v 1))))])) (q (q (r 8 (o .not (v 6))) (.cond (v 8) (q (r1 (s [(l 3 (i 0)),(l 4 (o (.iface 111) (i 5)))])) .ret) .skip)) (q (r1 (s [(l 3 (d (j 1 (v 5) (v 2)))),(l 4 (c
 .nilIface))])) .ret))))),[(v 3),(v 4)]⟩
def F31 : SFun := ⟨1,2,(q (r 1 (i 0)) (q (r 1 (o .llen (f 2 (n (v 0))))) .ret)),[(v 1)]⟩
def F33 : SFun := ⟨2,9,(q (r1 (s [(l 2 (c (.pointer none))),(l 3 (c .nilIface))])) (q (q (r 4 (.pick (.pick (.pick (b .lss (v 0) (i 1)) t (b .gtr (v 0) (i 50))) t (b .lss (v 1) (i 0))) t (b .gtr (v
 1) (i 50)))) (.cond (v 4) (q (r1 (s [(l 2 (c (.pointer none))),(l 3 (o (.iface 111) (i 1)))])) .ret) .skip)) (q (.reg [⟨[(l 5 (v 0)),(l 6 (v 1))],some (.ef [] .mnew [] (some
 7))⟩,(e (.new 129) [(u 4 1 (u 1 1 (u 0 1 (c (.agg #[y,y,y,y,(.map none)])) (v 5)) (v 6)) (v 7))] 8),(s [(l 2 (v 8)),(l 3 (c .nilIface))])]) .ret))),[(v 2),(v 3)]⟩
def F34 : SFun := ⟨2,12,(q (r1 (s [(l 2 (c (.slice none 0 0))),(l 3 (c .nilIface))])) (q (q (r 6 (.pick (b .lss (v 1) (i 0)) t (b .gtr (v 1) (b .sub (i 1000) (f 2 (n (v 0))))))) (.cond (v 6) (q (r1
 (s [(l 2 (c (.slice none 0 0))),(l 3 (o (.iface 111) (i 1)))])) .ret) .skip)) (q (r1 ⟨[],some (.ef [] (.st 1) [(a 2 (n (v 0))),(b .add (f 2 (n (v 0))) (v 1))] none)⟩) (q (r 4 (c
 (.slice none 0 0))) (q (m 0 (q (q (.dreg (.done (s [(l 7 (b .leq (b .add (b .mul (b .add (f 3 (n (v 0))) (i 1)) (f 0 (n (v 0)))) (f 1 (n (v 0)))) (f 2 (n (v 0)))))]))) (h (v 7) 0))
 (.block 1 (q (.dreg (.eff true [(l 0 (f 4 (n (v 0)))),(l 0 (f 3 (n (v 0)))),(l 0 (o2 (.lkp .int (.slice none 0 0)) (f 4 (n (v 0))) (f 3 (n (v 0)))))] ⟨[(l 8 (o2 (.lkp .int (.slice
 none 0 0)) (f 4 (n (v 0))) (f 3 (n (v 0)))))],some (.ef [] (.new 64) [(c (.slice none 0 0))] (some 5))⟩ (.eff false [] ⟨[],some (.ef [] (.st 1) [(v 5),(v 8)] none)⟩ (.done (s
 []))))) (q (.dreg (.eff false [] ⟨[],some (.ef [] (.mdel .int) [(f 4 (n (v 0))),(f 3 (n (v 0)))] none)⟩ (.done (s [])))) (q (r1 ⟨[],some (.ef [] (.call 61) [(o (.iface 64) (d (v
 5))),(o2 .capp (.mkf 62) (v 5))] none)⟩) (q (.dreg (.eff false [] ⟨[(l 9 (v 4))],some (.ef [] (.bsl 101 1) [(u 0 2 (c (.agg #[y,(.slice none 0 0)])) (u 1 1 (u 0 1 (c (.agg
 #[y,(.slice none 0 0)])) (f 3 (n (v 0)))) (d (v 5))))] (some 10))⟩ (.eff false [] (e (.app 101 2 32) [(v 9),(v 10)] 11) (.done (s [(l 4 (v 11))]))))) (r1 ⟨[],some (.ef [] (.st 1)
 [(a 3 (n (v 0))),(b .add (f 3 (n (v 0))) (i 1))] none)⟩)))))))) (q (r1 (s [(l 2 (v 4)),(l 3 (c .nilIface))])) .ret)))))),[(v 2),(v 3)]⟩
def F37 : SFun := ⟨2,12,(q (.reg [(w 2 (v 1)),(s [(l 3 (c .nilIface))])]) (q (q (.dreg (.done (s [(l 5 (.pick (.pick (.pick (.pick (.pick (.pick (b .lss (f 0 (p 2)) (i 0)) t (b .geq (f 0 (p 2)) (i
 8))) t (b .lss (f 1 (p 2)) (i 0))) t (b .gtr (f 1 (p 2)) (i 255))) t (b .lss (f 2 (p 2)) (i 0))) t (b .gtr (f 2 (p 2)) (f 2 (n (v 0))))) t (b .neq (o .slen (f 3 (p 2))) (i
 8))))]))) (.cond (v 5) (q (r 3 (o (.iface 111) (i 1))) .ret) .skip)) (q (.dreg (.done (s [(l 4 (b .quo (f 2 (p 2)) (f 0 (n (v 0)))))]))) (q (q (r 6 (b .lss (v 4) (f 3 (n (v 0)))))
 (.cond (v 6) (q (r 3 (o (.iface 111) (i 6))) .ret) .skip)) (q (.dreg (.eff true [(l 0 (f 4 (n (v 0)))),(l 0 (f 4 (n (v 0)))),(l 0 (o2 (.lkp .int (.slice none 0 0)) (f 4 (n (v 0)))
 (v 4)))] ⟨[(l 7 (f 4 (n (v 0)))),(l 8 (v 4)),(l 9 (o2 (.lkp .int (.slice none 0 0)) (f 4 (n (v 0))) (v 4)))],some (.ef [] (.bsl 66 1) [(u 0 4 (c (.agg #[y,y,y,y0])) (o (.ldn 4) (p
 2)))] (some 10))⟩ (.eff true [] (e (.app 66 4 40) [(v 9),(v 10)] 11) (.eff false [] ⟨[],some (.ef [] (.mupd .int) [(v 7),(v 8),(v 11)] none)⟩ (.done (s [])))))) (q (r 3 (c
 .nilIface)) .ret)))))),[(v 3)]⟩
def F39 : SFun := ⟨1,2,(q (r 1 (i 0)) (q (r 1 (f 2 (n (v 0)))) .ret)),[(v 1)]⟩
def F44 : SFun := ⟨3,7,(q (r1 (s [(l 3 (c (.pointer none))),(l 4 (c .nilIface))])) (q (q (r 5 (.pick (.pick (.pick (.pick (o2 (.eqv .ptr false) (v 0) (c (.pointer none))) t (b .lss (v 1) (i 1))) t
 (b .gtr (v 1) (i 8))) t (b .lss (v 2) (i 1))) t (b .gtr (v 2) (v 1)))) (.cond (v 5) (q (r1 (s [(l 3 (c (.pointer none))),(l 4 (o (.iface 111) (i 1)))])) .ret) .skip)) (q (.reg [(e
 (.new 141) [(u 2 1 (u 1 1 (u 0 1 (c (.agg #[y,y,(.pointer none),(.slice none 0 0)])) (v 1)) (v 2)) (v 0))] 6),(s [(l 3 (v 6)),(l 4 (c .nilIface))])]) .ret))),[(v 3),(v 4)]⟩
def F46 : SFun := ⟨1,42,(q (r 1 z) (q (r 2 (o .llen (f 3 (n (v 0))))) (q (q (.reg [⟨[(l 12 (v 2))],some (.ef [] (.call 31) [(f 2 (n (v 0)))] (some 13))⟩,(s [(l 14 (b .geq (v 12) (v 13)))])]) (.cond
 (v 14) (q (r 1 z) .ret) .skip)) (q (r1 (e (.new 29) [(c (.slice none 0 0))] 3)) (q (q (r1 (k 54 [(f 2 (n (v 0)))] 15)) (.block 0 (.rfn 71 3 15 16 (r 4 (v 16)) (.block 1 (q (.reg
 [(k 66 [(v 4)] 17),(s [(l 18 (b .gtr (v 17) (i 0)))])]) (.cond (v 18) (.reg [⟨[(l 19 (d (v 3)))],some (.ef [] (.bsl 9 1) [(u 0 1 (c (.agg #[y0])) (v 4))] (some 20))⟩,(e (.app 9 1
 16) [(v 19),(v 20)] 21),⟨[],some (.ef [] (.st 1) [(v 3),(v 21)] none)⟩]) .skip)))))) (q (r1 ⟨[],some (.ef [] (.call 67) [(d (v 3))] none)⟩) (q (.reg [(e .mnew [] 22),(s [(l 5 (v
 22))])]) (q (q (r1 (s [(l 23 (d (v 3))),(l 24 (o .llen (d (v 3)))),(l 25 (i 0))])) (m 2 (q (r 26 (b .lss (v 25) (v 24))) (q (h (v 26) 2) (q (.block 3 (q (r 6 (d (j 1 (v 23) (v
 25)))) (q (r 7 (c y0)) (q (q (r 27 (b .gtr (v 2) (i 0))) (.cond (v 27) (r 7 (o2 (.lkp .str y0) (d (j 1 (f 3 (n (v 0))) (b .sub (v 2) (i 1)))) (v 6))) .skip)) (q (.dreg (.done (s
 [(l 8 (c y0)),(l 9 (b .sub (f 1 (n (v 0))) (i 1)))]))) (q (q (r1 (s [(l 28 (d (v 3))),(l 29 (o .llen (d (v 3)))),(l 30 (i 0))])) (m 4 (q (r 31 (b .lss (v 30) (v 29))) (q (h (v 31)
 4) (q (.block 5 (q (r 10 (d (j 1 (v 28) (v 30)))) (q (q (.reg [(k 66 [(v 10)] 32),(k 66 [(v 6)] 33),(s [(l 34 (b .leq (v 32) (v 33)))])]) (.cond (v 34) (.exit 5) .skip)) (q (.reg
 [(k 68 [(v 0),(v 6),(v 10),(v 2)] 35),(s [(l 11 (v 35))])]) (q (r 36 (.pick (b .gtr (v 11) (v 9)) t (.pick (.pick (b .eql (v 11) (v 9)) (b .geq (v 11) (f 1 (n (v 0)))) z) (b .eql
 (v 10) (v 7)) z))) (.cond (v 36) (r1 (s [(l 8 (v 10)),(l 9 (v 11))])) .skip)))))) (r 30 (b .add (v 30) (i 1)))))))) (q (r 37 (b .neq (v 8) (c y0))) (.cond (v 37) (r1 ⟨[],some (.ef
 [] (.mupd .str) [(v 5),(v 6),(v 8)] none)⟩) .skip)))))))) (r 25 (b .add (v 25) (i 1)))))))) (q (.reg [⟨[(l 38 (v 0)),(l 39 (f 3 (n (v 0))))],some (.ef [] (.bsl 143 1) [(u 0 1 (c
 (.agg #[(.map none)])) (v 5))] (some 40))⟩,(e (.app 143 1 8) [(v 39),(v 40)] 41),⟨[],some (.ef [] (.st 1) [(a 3 (n (v 38))),(v 41)] none)⟩]) (q (r 1 t) .ret)))))))))),[(v 1)]⟩
def F50 : SFun := ⟨4,13,(q (r 4 z) (q (.reg [(k 30 [(v 0),(v 1),(v 3)] 8),(s [(l 5 (x 0 (v 8))),(l 6 (x 1 (v 8)))])]) (q (q (r 9 (.pick (.pick (o2 (.eqv .iface true) (v 6) (c .nilIface)) t (b .lss
 (v 2) (i 0))) t (b .neq (v 5) (v 2)))) (.cond (v 9) (q (r 4 z) .ret) .skip)) (q (q (r 10 (b .eql (v 3) (i 0))) (.cond (v 10) (q (r 4 t) .ret) .skip)) (q (.reg [(k 30 [(v 0),(v
 1),(b .sub (v 3) (i 1))] 11),(s [(l 7 (x 0 (v 11))),(l 12 (x 1 (v 11)))])]) (q (r 4 (b .neq (v 7) (v 2))) .ret)))))),[(v 4)]⟩
def F54 : SFun := ⟨1,3,(q (.reg [(e (.new 25) [(v 0)] 1),(s [(l 2 (c .nilFunc))])]) (q (r 2 (o2 .capp (.mkf 71) (v 1))) .ret)),[(v 2)]⟩
def F56 : SFun := ⟨1,7,(q (r 1 (c (.int .u8 0))) (q (r 2 (c (.int .u8 0))) (q (q (r1 (s [(l 4 (o .slen (v 0))),(l 5 (i 0))])) (m 0 (q (r 6 (b .lss (v 5) (v 4))) (q (h (v 6) 0) (q (.block 1 (q (r 3
 (v 5)) (r 2 (b .add (v 2) (o2 .sidx (v 0) (v 3)))))) (r 5 (b .add (v 5) (i 1)))))))) (q (r 1 (o .inv (v 2))) .ret)))),[(v 1)]⟩
def F57 : SFun := ⟨1,16,(q (.reg [(w 1 (c (.agg #[y,(.slice none 0 0),y]))),(s [(l 2 (i 0)),(l 3 z)])]) (q (q (r 5 (b .neq (o2 .sidx (v 0) (i 0)) (c (.int .u8 165)))) (.cond (v 5) (q (.reg [⟨[],some
 (.pst 1 (.upd (.cnt 1) 1 3 (p 1) (c (.agg #[y,(.slice none 0 0),y]))))⟩,(s [(l 2 (i 0)),(l 3 z)])]) .ret) .skip)) (q (q (r 6 (b .lss (o .slen (v 0)) (i 2))) (.cond (v 6) (q (.reg
 [⟨[],some (.pst 1 (.upd (.cnt 1) 1 3 (p 1) (c (.agg #[y,(.slice none 0 0),y]))))⟩,(s [(l 2 (i 0)),(l 3 t)])]) .ret) .skip)) (q (r 2 (b .add (i 4) (o (.conv .i64) (o2 .sidx (v 0) (i
 1))))) (q (q (r 7 (b .gtr (v 2) (i 48))) (.cond (v 7) (q (.reg [⟨[],some (.pst 1 (.upd (.cnt 1) 1 3 (p 1) (c (.agg #[y,(.slice none 0 0),y]))))⟩,(s [(l 2 (i 0)),(l 3 z)])]) .ret)
 .skip)) (q (q (r 8 (b .lss (o .slen (v 0)) (v 2))) (.cond (v 8) (q (.reg [⟨[],some (.pst 1 (.upd (.cnt 1) 1 3 (p 1) (c (.agg #[y,(.slice none 0 0),y]))))⟩,(s [(l 2 (i 0)),(l 3
 t)])]) .ret) .skip)) (q (q (.dreg (.eff false [] ⟨[(l 10 (o2 .sidx (v 0) (b .sub (v 2) (i 1))))],some (.ef [] (.call 56) [(.o3 .ssl (v 0) (i 0) (b .sub (v 2) (i 1)))] (some 9))⟩
 (.done (s [(l 11 (b .neq (v 9) (v 10)))])))) (.cond (v 11) (q (.reg [⟨[],some (.pst 1 (.upd (.cnt 1) 1 3 (p 1) (c (.agg #[y,(.slice none 0 0),y]))))⟩,(s [(l 2 (i 0)),(l 3 z)])])
 .ret) .skip)) (q (.dreg (.eff false [] (k 72 [(o (.conv .i64) (o2 .sidx (v 0) (i 2))),(.o3 .ssl (v 0) (i 3) (b .sub (v 2) (i 1)))] 12) (.eff false [] ⟨[(l 13 (x 1 (v 12)))],some
 (.pst 1 (.upd (.cnt 1) 1 3 (p 1) (x 0 (v 12))))⟩ (.done (s [(l 4 (v 13))]))))) (q (q (r 14 (o .not (v 4))) (.cond (v 14) (r 2 (i 0)) .skip)) (q (.reg [⟨[(l 15 (v 2))],some (.pst 1
 (.upd (.cnt 1) 1 3 (p 1) (o (.ldn 3) (p 1))))⟩,(s [(l 2 (v 15)),(l 3 z)])]) .ret)))))))))),[(o (.ldn 3) (p 1)),(v 2),(v 3)]⟩
def F60 : SFun := ⟨2,25,(q (r 2 (i 0)) (q (.reg [(e (.new 149) [(c (.agg #[y,y,y,y,y,y,y,y]))] 3),(e (.new 149) [(c (.agg #[y,y,y,y,y,y,y,y]))] 4)]) (q (r 5 (o .llen (f 2 (n (v 0))))) (q (q (.dreg
 (.done (s [(l 12 (.o3 (.lsl 1) (f 2 (n (v 0))) (o2 .max (i 0) (b .sub (v 5) (f 0 (n (v 0))))) (o .llen (f 2 (n (v 0)))))),(l 13 (o .llen (.o3 (.lsl 1) (f 2 (n (v 0))) (o2 .max (i
 0) (b .sub (v 5) (f 0 (n (v 0))))) (o .llen (f 2 (n (v 0))))))),(l 14 (i 0))]))) (m 0 (q (r 15 (b .lss (v 14) (v 13))) (q (h (v 15) 0) (q (.block 1 (q (r 6 (d (j 1 (v 12) (v 14))))
 (q (r1 (e .rng [(o2 (.lkp .str (.map none)) (v 6) (v 1))] 16)) (m 2 (q (.reg [(e .nxt [(v 16)] 17),(s [(l 18 (x 0 (v 17)))])]) (q (h (v 18) 2) (.block 3 (q (.reg [(e .ent [(v 16)]
 19),(s [(l 7 (x 0 (v 19))),(l 8 (x 1 (v 19)))])]) (q (r1 ⟨[],some (.ef [] (.st 1) [(o2 (.aadr 8 1) (v 3) (v 7)),(b .add (d (o2 (.aadr 8 1) (v 3) (v 7))) (i 1))] none)⟩) (r1
 ⟨[],some (.ef [] (.st 1) [(o2 (.aadr 8 1) (v 4) (v 7)),(b .add (d (o2 (.aadr 8 1) (v 4) (v 7))) (v 8))] none)⟩)))))))))) (r 14 (b .add (v 14) (i 1)))))))) (q (r 9 (i (-1))) (q (q
 (r1 (s [(l 20 (o (.ldn 8) (v 3))),(l 21 (i 0))])) (m 4 (q (r 22 (b .lss (v 21) (i 8))) (q (h (v 22) 4) (q (.block 5 (q (r1 (s [(l 10 (v 21)),(l 11 (o2 (.vidx 8) (v 20) (v 21)))]))
 (q (q (r 23 (b .lss (v 11) (f 1 (n (v 0))))) (.cond (v 23) (.exit 5) .skip)) (q (.dreg (.done (s [(l 24 (.pick (.pick (b .lss (v 9) (i 0)) t (b .gtr (v 11) (d (o2 (.aadr 8 1) (v 3)
 (v 9))))) t (.pick (b .eql (v 11) (d (o2 (.aadr 8 1) (v 3) (v 9)))) (b .gtr (d (o2 (.aadr 8 1) (v 4) (v 10))) (d (o2 (.aadr 8 1) (v 4) (v 9)))) z)))]))) (.cond (v 24) (r 9 (v 10))
 .skip))))) (r 21 (b .add (v 21) (i 1)))))))) (q (r 2 (v 9)) .ret))))))),[(v 2)]⟩
def F62 : SFun := ⟨3,5,(q (r 3 z) (q (.dreg (.eff false [] (k 63 [(o (.ldn 4) (j 4 (d (v 2)) (v 0))),(o (.ldn 4) (j 4 (d (v 2)) (v 1)))] 4) (.done (s [(l 3 (v 4))])))) .ret)),[(v 3)]⟩
def F63 : SFun := ⟨2,8,(q (.reg [(w 2 (v 0)),(w 3 (v 1)),(s [(l 4 z)])]) (q (.block 0 (q (r 5 (b .neq (f 3 (p 2)) (f 3 (p 3)))) (.cond (v 5) (q (r 4 (b .lss (f 3 (p 2)) (f 3 (p 3)))) .ret) (q (r 6
 (b .neq (f 2 (p 2)) (f 2 (p 3)))) (.cond (v 6) (q (r 4 (b .lss (f 2 (p 2)) (f 2 (p 3)))) .ret) (q (r 7 (b .neq (f 0 (p 2)) (f 0 (p 3)))) (.cond (v 7) (q (r 4 (b .lss (f 0 (p 2)) (f
 0 (p 3)))) .ret) .skip))))))) (q (r 4 (b .lss (f 1 (p 2)) (f 1 (p 3)))) .ret))),[(v 4)]⟩
def F66 : SFun := ⟨1,8,(q (r 1 (i 0)) (q (.reg [(k 81 [(v 0)] 4),⟨[(l 5 (x 0 (v 4))),(l 6 (x 1 (v 4)))],some (.pnew 2 (c g6))⟩,⟨[],some (.pst 2 (.upd (.cnt 2) 2 6 (p 2) (v 5)))⟩,(s [(l 3 (v 6))])])
 (q (q (r 7 (o2 (.eqv .iface true) (v 3) (c .nilIface))) (.cond (v 7) (q (r 1 (i 0)) .ret) .skip)) (q (r 1 (f 0 (p 2))) .ret)))),[(v 1)]⟩
def F68 : SFun := ⟨4,15,(q (r 4 (i 0)) (q (r 5 (i 0)) (q (q (r 6 (o2 .max (i 0) (b .add (b .sub (v 3) (f 0 (n (v 0)))) (i 1)))) (m 0 (q (q (r 11 (b .leq (v 6) (v 3))) (h (v 11) 0)) (q (.block 1 (q
 (.reg [(k 30 [(f 2 (n (v 0))),(v 1),(v 6)] 12),(s [(l 7 (x 0 (v 12))),(l 8 (x 1 (v 12)))])]) (q (.reg [(k 30 [(f 2 (n (v 0))),(v 2),(v 6)] 13),(s [(l 9 (x 0 (v 13))),(l 10 (x 1 (v
 13)))])]) (q (r 14 (.pick (.pick (.pick (o2 (.eqv .iface false) (v 8) (c .nilIface)) (o2 (.eqv .iface false) (v 10) (c .nilIface)) z) (b .geq (v 7) (i 0)) z) (b .eql (v 7) (v 9))
 z)) (.cond (v 14) (r 5 (b .add (v 5) (i 1))) .skip))))) (r 6 (b .add (v 6) (i 1))))))) (q (r 4 (v 5)) .ret)))),[(v 4)]⟩
def F72 : SFun := ⟨2,14,(q (.reg [(w 2 (c (.agg #[y,(.slice none 0 0),y]))),(s [(l 3 z)])]) (q (.reg [⟨[(l 5 (u 0 1 (c (.agg #[y,(.slice none 0 0),y])) (v 0)))],some (.pnew 4 (c (.agg #[y,(.slice
 none 0 0),y])))⟩,⟨[],some (.pst 4 (.upd (.cnt 4) 4 3 (p 4) (v 5)))⟩]) (q (.block 0 (q (r 6 (.pick (.pick (b .eql (v 0) (i 1)) (b .eql (b .rem (o .slen (v 1)) (i 11)) (i 0)) z) (b
 .leq (o .slen (v 1)) (i 44)) z)) (.cond (v 6) (m 1 (q (q (r 7 (b .neq (v 1) (c y0))) (h (v 7) 1)) (q (.block 2 (q (q (r 8 (b .geq (o2 .sidx (v 1) (i 0)) (c (.int .u8 4)))) (.cond
 (v 8) (q (.reg [⟨[],some (.pst 2 (.upd (.cnt 2) 2 3 (p 2) (c (.agg #[y,(.slice none 0 0),y]))))⟩,(s [(l 3 z)])]) .ret) .skip)) (.dreg (.eff true [(l 0 (f 1 (p 4)))] ⟨[(l 9 (f 1 (p
 4)))],some (.ef [] (.bsl 40 1) [(u 0 4 (c (.agg #[y,y,y,y0])) (u 3 1 (u 2 1 (u 1 1 (u 0 1 (c (.agg #[y,y,y,y0])) (o (.conv .i64) (o2 .sidx (v 1) (i 0)))) (o (.conv .i64) (o2 .sidx
 (v 1) (i 1)))) (o (.conv .i64) (o2 .sidx (v 1) (i 2)))) (.o3 .ssl (v 1) (i 3) (i 11))))] (some 10))⟩ (.eff false [] (e (.app 40 4 40) [(v 9),(v 10)] 11) (.eff false [] ⟨[],some
 (.pst 4 (.upd (.cnt 4) 4 1 (a 1 (p 4)) (v 11)))⟩ (.done (s [])))))))) (r 1 (.o3 .ssl (v 1) (i 11) (o .slen (v 1))))))) (q (r 12 (.pick (b .eql (v 0) (i 2)) (b .eql (v 1) (c y0))
 z)) (.cond (v 12) .skip (q (r 13 (.pick (b .eql (v 0) (i 3)) (b .eql (o .slen (v 1)) (i 1)) z)) (.cond (v 13) (r1 ⟨[],some (.pst 4 (.upd (.cnt 4) 4 1 (a 2 (p 4)) (o (.conv .i64)
 (o2 .sidx (v 1) (i 0)))))⟩) (q (.reg [⟨[],some (.pst 2 (.upd (.cnt 2) 2 3 (p 2) (c (.agg #[y,(.slice none 0 0),y]))))⟩,(s [(l 3 z)])]) .ret)))))))) (q (.reg [⟨[],some (.pst 2 (.upd
 (.cnt 2) 2 3 (p 2) (o (.ldn 3) (p 4))))⟩,(s [(l 3 t)])]) .ret)))),[(o (.ldn 3) (p 2)),(v 3)]⟩
def F77 : SFun := ⟨4,29,(q (r1 (w 4 (v 0))) (q (r 5 t) (q (r 6 t) (m 0 (.block 1 (q (r 7 (b .sub (v 2) (v 1))) (q (q (r 16 (b .leq (v 7) (i 12))) (.cond (v 16) (q (r1 ⟨[],some (.ef [] (.call 98) [(o
 (.ldn 2) (p 4)),(v 1),(v 2)] none)⟩) .ret) .skip)) (q (q (r 17 (b .eql (v 3) (i 0))) (.cond (v 17) (q (r1 ⟨[],some (.ef [] (.call 99) [(o (.ldn 2) (p 4)),(v 1),(v 2)] none)⟩) .ret)
 .skip)) (q (q (r 18 (o .not (v 5))) (.cond (v 18) (q (r1 ⟨[],some (.ef [] (.call 100) [(o (.ldn 2) (p 4)),(v 1),(v 2)] none)⟩) (r 3 (b .sub (v 3) (i 1)))) .skip)) (q (.reg [(k 101
 [(o (.ldn 2) (p 4)),(v 1),(v 2)] 19),(s [(l 8 (x 0 (v 19))),(l 9 (x 1 (v 19)))])]) (q (q (r 20 (b .eql (v 9) (i 2))) (.cond (v 20) (q (r1 ⟨[],some (.ef [] (.call 102) [(o (.ldn 2)
 (p 4)),(v 1),(v 2)] none)⟩) (q (r 8 (b .sub (b .sub (v 2) (i 1)) (b .sub (v 8) (v 1)))) (r 9 (i 1)))) .skip)) (q (q (r 21 (.pick (.pick (v 5) (v 6) z) (b .eql (v 9) (i 1)) z))
 (.cond (v 21) (q (r1 (k 103 [(o (.ldn 2) (p 4)),(v 1),(v 2)] 22)) (.cond (v 22) .ret .skip)) .skip)) (q (q (.reg [⟨[(l 23 (b .gtr (v 1) (i 0)))],some (.ef [((b .gtr (v 1) (i
 0)),true)] .cal [(f 0 (p 4)),(b .sub (v 1) (i 1)),(v 8)] (some 24))⟩,(s [(l 25 (.pick (v 23) (o .not (v 24)) z))])]) (.cond (v 25) (q (.reg [(k 104 [(o (.ldn 2) (p 4)),(v 1),(v
 2),(v 8)] 26),(s [(l 10 (v 26))])]) (q (r 1 (v 10)) (.exit 1))) .skip)) (q (.reg [(k 105 [(o (.ldn 2) (p 4)),(v 1),(v 2),(v 8)] 27),(s [(l 11 (x 0 (v 27))),(l 12 (x 1 (v 27)))])])
 (q (r 6 (v 12)) (q (r1 (s [(l 13 (b .sub (v 11) (v 1))),(l 14 (b .sub (v 2) (v 11)))])) (q (r 15 (b .quo (v 7) (i 8))) (q (r 28 (b .lss (v 13) (v 14))) (.cond (v 28) (q (r 5 (b
 .geq (v 13) (v 15))) (q (r1 ⟨[],some (.ef [] (.call 77) [(o (.ldn 2) (p 4)),(v 1),(v 11),(v 3)] none)⟩) (r 1 (b .add (v 11) (i 1))))) (q (r 5 (b .geq (v 14) (v 15))) (q (r1
 ⟨[],some (.ef [] (.call 77) [(o (.ldn 2) (p 4)),(b .add (v 11) (i 1)),(v 2),(v 3)] none)⟩) (r 2 (v 11))))))))))))))))))))))),[]⟩
def F81 : SFun := ⟨1,35,(q (.reg [(w 1 (c g6)),(s [(l 2 (c .nilIface))])]) (q (q (r 9 (b .neq (o .slen (v 0)) (i 8))) (.cond (v 9) (q (.reg [⟨[(l 10 (o (.iface 111) (i 3)))],some (.pst 1 (.upd (.cnt
 1) 1 6 (p 1) (c g6)))⟩,(s [(l 2 (v 10))])]) .ret) .skip)) (q (.reg [(e (.new 178) [(c (.int .u64 0))] 3),⟨[],some (.ef [] (.st 1) [(v 3),(c (.int .u64 0))] none)⟩]) (q (q (r1 (s
 [(l 11 (o .slen (v 0))),(l 12 (i 0))])) (m 0 (q (r 13 (b .lss (v 12) (v 11))) (q (h (v 13) 0) (q (.block 1 (q (r 4 (v 12)) (.dreg (.eff false [] ⟨[],some (.ef [] (.st 1) [(v 3),(b
 .or (b .shl (d (v 3)) (c (.int .u64 8))) (o (.conv .u64) (o2 .sidx (v 0) (v 4))))] none)⟩ (.done (s [])))))) (r 12 (b .add (v 12) (i 1)))))))) (q (r 5 (o2 .capp (.mkf 106) (v 3)))
 (q (r1 (e (.new 138) [(c g6)] 6)) (q (.reg [(e .cal [(v 5),(i 24)] 14),⟨[],some (.ef [] (.st 1) [(a 5 (v 6)),(v 14)] none)⟩]) (q (.reg [(k 107 [(o (.conv .i64) (b .and (b .shr (d
 (v 3)) (c (.int .u64 26))) (c (.int .u64 7))))] 15),⟨[(l 16 (x 0 (v 15))),(l 17 (x 1 (v 15)))],some (.pnew 7 (c (.agg #[y,y,y,y])))⟩,⟨[],some (.pst 7 (.upd (.cnt 7) 7 4 (p 7) (v
 16)))⟩,(s [(l 8 (v 17))])]) (q (q (r 18 (o .not (v 8))) (.cond (v 18) (q (.reg [⟨[(l 19 (o (.iface 111) (i 3)))],some (.pst 1 (.upd (.cnt 1) 1 6 (p 1) (c g6)))⟩,(s [(l 2 (v
 19))])]) .ret) .skip)) (q (.dreg (.eff true [(l 0 (f 0 (p 7)))] ⟨[(l 21 (v 5)),(l 22 (f 0 (p 7))),(l 24 (v 5)),(l 26 (v 5)),(l 28 (v 5))],some (.ef [] .cal [(v 5),(f 2 (p 7))]
 (some 20))⟩ (.eff false [] ⟨[(l 31 (a 4 (v 6)))],some (.ef [] .cal [(v 21),(v 22)] (some 23))⟩ (.eff false [] (e .cal [(v 24),(i 3)] 25) (.eff false [] (e .cal [(v 26),(i 3)] 27)
 (.eff false [] (e .cal [(v 28),(i 8)] 29) (.eff false [] ⟨[(l 30 (b .sub (v 29) (i 47)))],some (.ef [] (.st 1) [(v 31),(v 20)] none)⟩ (.eff false [] ⟨[],some (.ef [] (.st 1) [(a 3
 (v 6)),(v 23)] none)⟩ (.eff false [] ⟨[],some (.ef [] (.st 1) [(a 2 (v 6)),(v 25)] none)⟩ (.eff false [] ⟨[],some (.ef [] (.st 1) [(a 1 (v 6)),(v 27)] none)⟩ (.eff false []
 ⟨[],some (.ef [] (.st 1) [(a 0 (v 6)),(v 30)] none)⟩ (.done (s []))))))))))))) (q (q (.reg [(k 108 [(o (.ldn 6) (v 6))] 32),(s [(l 33 (o2 (.eqv .iface true) (v 32) (c
 .nilIface)))])]) (.cond (v 33) (q (.reg [⟨[(l 34 (o (.iface 111) (i 3)))],some (.pst 1 (.upd (.cnt 1) 1 6 (p 1) (c g6)))⟩,(s [(l 2 (v 34))])]) .ret) .skip)) (q (.reg [⟨[],some
 (.pst 1 (.upd (.cnt 1) 1 6 (p 1) (o (.ldn 6) (v 6))))⟩,(s [(l 2 (c .nilIface))])]) .ret)))))))))))),[(o (.ldn 6) (p 1)),(v 2)]⟩
def F98 : SFun := ⟨3,10,(q (r1 (w 3 (v 0))) (q (r 4 (b .add (v 1) (i 1))) (m 0 (q (q (r 6 (b .lss (v 4) (v 2))) (h (v 6) 0)) (q (.block 1 (q (r 5 (v 4)) (m 2 (q (q (.reg [⟨[(l 7 (b .gtr (v 5) (v
 1)))],some (.ef [((b .gtr (v 5) (v 1)),true)] .cal [(f 0 (p 3)),(v 5),(b .sub (v 5) (i 1))] (some 8))⟩,(s [(l 9 (.pick (v 7) (v 8) z))])]) (h (v 9) 2)) (q (.block 3 (r1 ⟨[],some
 (.ef [] .cal [(f 1 (p 3)),(v 5),(b .sub (v 5) (i 1))] none)⟩)) (r 5 (b .sub (v 5) (i 1)))))))) (r 4 (b .add (v 4) (i 1)))))))),[]⟩
def F99 : SFun := ⟨3,11,(q (r1 (w 3 (v 0))) (q (r 4 (v 1)) (q (r 5 (i 0)) (q (r 6 (b .sub (v 2) (v 1))) (q (q (r 7 (b .quo (b .sub (v 6) (i 1)) (i 2))) (m 0 (q (q (r 9 (b .geq (v 7) (i 0))) (h (v 9)
 0)) (q (.block 1 (r1 ⟨[],some (.ef [] (.call 112) [(o (.ldn 2) (p 3)),(v 7),(v 6),(v 4)] none)⟩)) (r 7 (b .sub (v 7) (i 1))))))) (q (r 8 (b .sub (v 6) (i 1))) (m 2 (q (q (r 10 (b
 .geq (v 8) (i 0))) (h (v 10) 2)) (q (.block 3 (q (r1 ⟨[],some (.ef [] .cal [(f 1 (p 3)),(v 4),(b .add (v 4) (v 8))] none)⟩) (r1 ⟨[],some (.ef [] (.call 112) [(o (.ldn 2) (p 3)),(v
 5),(v 8),(v 4)] none)⟩))) (r 8 (b .sub (v 8) (i 1)))))))))))),[]⟩
def F100 : SFun := ⟨3,15,(q (r1 (w 3 (v 0))) (q (r 4 (b .sub (v 2) (v 1))) (q (r 9 (b .geq (v 4) (i 8))) (.cond (v 9) (q (.reg [⟨[(l 10 (o (.conv .u64) (v 4)))],some (.ef [] (.new 196) [(c (.int .u64
 0))] (some 5))⟩,⟨[],some (.ef [] (.st 1) [(v 5),(v 10)] none)⟩]) (q (.reg [(k 113 [(v 4)] 11),(s [(l 6 (v 11))])]) (q (r 7 (b .sub (b .add (v 1) (b .mul (b .quo (v 4) (i 4)) (i
 2))) (i 1))) (m 0 (q (q (r 12 (b .leq (v 7) (b .add (b .add (v 1) (b .mul (b .quo (v 4) (i 4)) (i 2))) (i 1)))) (h (v 12) 0)) (q (.block 1 (q (.reg [(k 114 [(v 5)] 13),(s [(l 8 (o
 (.conv .i64) (b .and (v 13) (b .sub (v 6) (c (.int .u64 1))))))])]) (q (q (r 14 (b .geq (v 8) (v 4))) (.cond (v 14) (r 8 (b .sub (v 8) (v 4))) .skip)) (r1 ⟨[],some (.ef [] .cal [(f
 1 (p 3)),(v 7),(b .add (v 1) (v 8))] none)⟩)))) (r 7 (b .add (v 7) (i 1))))))))) .skip)))),[]⟩
def F101 : SFun := ⟨3,20,(q (.reg [(w 3 (v 0)),(s [(l 4 (i 0)),(l 5 (i 0))])]) (q (r 6 (b .sub (v 2) (v 1))) (q (r1 (e (.new 3) [(i 0)] 7)) (q (r 8 (b .add (v 1) (b .mul (b .quo (v 6) (i 4)) (i 1))))
 (q (r 9 (b .add (v 1) (b .mul (b .quo (v 6) (i 4)) (i 2)))) (q (r 10 (b .add (v 1) (b .mul (b .quo (v 6) (i 4)) (i 3)))) (q (q (r 11 (b .geq (v 6) (i 8))) (.cond (v 11) (q (q (r 12
 (b .geq (v 6) (i 50))) (.cond (v 12) (q (.reg [(k 115 [(o (.ldn 2) (p 3)),(v 8),(v 7)] 13),(s [(l 8 (v 13))])]) (q (.reg [(k 115 [(o (.ldn 2) (p 3)),(v 9),(v 7)] 14),(s [(l 9 (v
 14))])]) (.reg [(k 115 [(o (.ldn 2) (p 3)),(v 10),(v 7)] 15),(s [(l 10 (v 15))])]))) .skip)) (.reg [(k 116 [(o (.ldn 2) (p 3)),(v 8),(v 9),(v 10),(v 7)] 16),(s [(l 9 (v 16))])]))
 .skip)) (q (r 17 (d (v 7))) (.block 0 (q (r 18 (b .eql (v 17) (i 0))) (.cond (v 18) (q (r1 (s [(l 4 (v 9)),(l 5 (i 1))])) .ret) (q (r 19 (b .eql (v 17) (i 12))) (.cond (v 19) (q
 (r1 (s [(l 4 (v 9)),(l 5 (i 2))])) .ret) (q (r1 (s [(l 4 (v 9)),(l 5 (i 0))])) .ret)))))))))))))),[(v 4),(v 5)]⟩
def F102 : SFun := ⟨3,7,(q (r1 (w 3 (v 0))) (q (r 4 (v 1)) (q (r 5 (b .sub (v 2) (i 1))) (m 0 (q (q (r 6 (b .lss (v 4) (v 5))) (h (v 6) 0)) (.block 1 (q (r1 ⟨[],some (.ef [] .cal [(f 1 (p 3)),(v
 4),(v 5)] none)⟩) (q (r 4 (b .add (v 4) (i 1))) (r 5 (b .sub (v 5) (i 1))))))))))),[]⟩
def F103 : SFun := ⟨3,23,(q (.reg [(w 3 (v 0)),(s [(l 4 z)])]) (q (r 5 (b .add (v 1) (i 1))) (q (q (r 6 (i 0)) (m 0 (q (q (r 9 (b .lss (v 6) (i 5))) (h (v 9) 0)) (q (.block 1 (q (m 2 (q (q (.reg
 [⟨[(l 10 (b .lss (v 5) (v 2)))],some (.ef [((b .lss (v 5) (v 2)),true)] .cal [(f 0 (p 3)),(v 5),(b .sub (v 5) (i 1))] (some 11))⟩,(s [(l 12 (.pick (v 10) (o .not (v 11)) z))])]) (h
 (v 12) 2)) (.block 3 (r 5 (b .add (v 5) (i 1)))))) (q (q (r 13 (b .eql (v 5) (v 2))) (.cond (v 13) (q (r 4 t) .ret) .skip)) (q (q (r 14 (b .lss (b .sub (v 2) (v 1)) (i 50))) (.cond
 (v 14) (q (r 4 z) .ret) .skip)) (q (r1 ⟨[],some (.ef [] .cal [(f 1 (p 3)),(v 5),(b .sub (v 5) (i 1))] none)⟩) (q (q (r 15 (b .geq (b .sub (v 5) (v 1)) (i 2))) (.cond (v 15) (q (r 7
 (b .sub (v 5) (i 1))) (m 4 (q (q (r 16 (b .geq (v 7) (i 1))) (h (v 16) 4)) (q (.block 5 (q (q (.reg [(e .cal [(f 0 (p 3)),(v 7),(b .sub (v 7) (i 1))] 17),(s [(l 18 (o .not (v
 17)))])]) (.cond (v 18) (.exit 4) .skip)) (r1 ⟨[],some (.ef [] .cal [(f 1 (p 3)),(v 7),(b .sub (v 7) (i 1))] none)⟩))) (r 7 (b .sub (v 7) (i 1))))))) .skip)) (q (r 19 (b .geq (b
 .sub (v 2) (v 5)) (i 2))) (.cond (v 19) (q (r 8 (b .add (v 5) (i 1))) (m 6 (q (q (r 20 (b .lss (v 8) (v 2))) (h (v 20) 6)) (q (.block 7 (q (q (.reg [(e .cal [(f 0 (p 3)),(v 8),(b
 .sub (v 8) (i 1))] 21),(s [(l 22 (o .not (v 21)))])]) (.cond (v 22) (.exit 6) .skip)) (r1 ⟨[],some (.ef [] .cal [(f 1 (p 3)),(v 8),(b .sub (v 8) (i 1))] none)⟩))) (r 8 (b .add (v
 8) (i 1))))))) .skip)))))))) (r 6 (b .add (v 6) (i 1))))))) (q (r 4 z) .ret)))),[(v 4)]⟩
def F104 : SFun := ⟨4,15,(q (.reg [(w 4 (v 0)),(s [(l 5 (i 0))])]) (q (r1 ⟨[],some (.ef [] .cal [(f 1 (p 4)),(v 1),(v 3)] none)⟩) (q (r1 (s [(l 6 (b .add (v 1) (i 1))),(l 7 (b .sub (v 2) (i 1)))]))
 (q (m 0 (.block 1 (q (m 2 (q (q (.reg [⟨[(l 8 (b .leq (v 6) (v 7)))],some (.ef [((b .leq (v 6) (v 7)),true)] .cal [(f 0 (p 4)),(v 1),(v 6)] (some 9))⟩,(s [(l 10 (.pick (v 8) (o
 .not (v 9)) z))])]) (h (v 10) 2)) (.block 3 (r 6 (b .add (v 6) (i 1)))))) (q (m 4 (q (q (.reg [⟨[(l 11 (b .leq (v 6) (v 7)))],some (.ef [((b .leq (v 6) (v 7)),true)] .cal [(f 0 (p
 4)),(v 1),(v 7)] (some 12))⟩,(s [(l 13 (.pick (v 11) (v 12) z))])]) (h (v 13) 4)) (.block 5 (r 7 (b .sub (v 7) (i 1)))))) (q (q (r 14 (b .gtr (v 6) (v 7))) (.cond (v 14) (.exit 0)
 .skip)) (q (r1 ⟨[],some (.ef [] .cal [(f 1 (p 4)),(v 6),(v 7)] none)⟩) (q (r 6 (b .add (v 6) (i 1))) (r 7 (b .sub (v 7) (i 1)))))))))) (q (r 5 (v 6)) .ret))))),[(v 5)]⟩
def F105 : SFun := ⟨4,23,(q (.reg [(w 4 (v 0)),(s [(l 5 (i 0)),(l 6 z)])]) (q (r1 ⟨[],some (.ef [] .cal [(f 1 (p 4)),(v 1),(v 3)] none)⟩) (q (r1 (s [(l 7 (b .add (v 1) (i 1))),(l 8 (b .sub (v 2) (i
 1)))])) (q (m 0 (q (q (.reg [⟨[(l 9 (b .leq (v 7) (v 8)))],some (.ef [((b .leq (v 7) (v 8)),true)] .cal [(f 0 (p 4)),(v 7),(v 1)] (some 10))⟩,(s [(l 11 (.pick (v 9) (v 10) z))])])
 (h (v 11) 0)) (.block 1 (r 7 (b .add (v 7) (i 1)))))) (q (m 2 (q (q (.reg [⟨[(l 12 (b .leq (v 7) (v 8)))],some (.ef [((b .leq (v 7) (v 8)),true)] .cal [(f 0 (p 4)),(v 8),(v 1)]
 (some 13))⟩,(s [(l 14 (.pick (v 12) (o .not (v 13)) z))])]) (h (v 14) 2)) (.block 3 (r 8 (b .sub (v 8) (i 1)))))) (q (q (r 15 (b .gtr (v 7) (v 8))) (.cond (v 15) (q (r1 ⟨[],some
 (.ef [] .cal [(f 1 (p 4)),(v 8),(v 1)] none)⟩) (q (r1 (s [(l 5 (v 8)),(l 6 t)])) .ret)) .skip)) (q (r1 ⟨[],some (.ef [] .cal [(f 1 (p 4)),(v 7),(v 8)] none)⟩) (q (r 7 (b .add (v 7)
 (i 1))) (q (r 8 (b .sub (v 8) (i 1))) (q (m 4 (.block 5 (q (m 6 (q (q (.reg [⟨[(l 16 (b .leq (v 7) (v 8)))],some (.ef [((b .leq (v 7) (v 8)),true)] .cal [(f 0 (p 4)),(v 7),(v 1)]
 (some 17))⟩,(s [(l 18 (.pick (v 16) (v 17) z))])]) (h (v 18) 6)) (.block 7 (r 7 (b .add (v 7) (i 1)))))) (q (m 8 (q (q (.reg [⟨[(l 19 (b .leq (v 7) (v 8)))],some (.ef [((b .leq (v
 7) (v 8)),true)] .cal [(f 0 (p 4)),(v 8),(v 1)] (some 20))⟩,(s [(l 21 (.pick (v 19) (o .not (v 20)) z))])]) (h (v 21) 8)) (.block 9 (r 8 (b .sub (v 8) (i 1)))))) (q (q (r 22 (b
 .gtr (v 7) (v 8))) (.cond (v 22) (.exit 4) .skip)) (q (r1 ⟨[],some (.ef [] .cal [(f 1 (p 4)),(v 7),(v 8)] none)⟩) (q (r 7 (b .add (v 7) (i 1))) (r 8 (b .sub (v 8) (i 1)))))))))) (q
 (r1 ⟨[],some (.ef [] .cal [(f 1 (p 4)),(v 8),(v 1)] none)⟩) (q (r1 (s [(l 5 (v 8)),(l 6 z)])) .ret)))))))))))),[(v 5),(v 6)]⟩
def F106 : SFun := ⟨2,4,(q (r 2 (i 0)) (q (.dreg (.done (s [(l 3 (o (.conv .i64) (b .and (d (v 1)) (b .sub (b .shl (c (.int .u64 1)) (v 0)) (c (.int .u64 1))))))]))) (q (r1 ⟨[],some (.ef [] (.st 1)
 [(v 1),(b .shr (d (v 1)) (v 0))] none)⟩) (q (r 2 (v 3)) .ret)))),[(v 2)]⟩
def F107 : SFun := ⟨1,6,(q (.reg [(w 1 (c (.agg #[y,y,y,y]))),(s [(l 2 z)])]) (q (.reg [⟨[(l 4 (u 20 4 (u 16 4 (u 12 4 (u 8 4 (u 4 4 (u 0 4 (c (.agg
 #[y,y,y,y,y,y,y,y,y,y,y,y,y,y,y,y,y,y,y,y,y,y,y,y])) (u 3 1 (u 2 1 (u 1 1 (u 0 1 (c (.agg #[y,y,y,y])) (i 20)) (i 6)) (i 6)) (i 1))) (u 3 1 (u 2 1 (u 1 1 (u 0 1 (c (.agg
 #[y,y,y,y])) (i 17)) (i 5)) (i 9)) (i 2))) (u 3 1 (u 2 1 (u 1 1 (u 0 1 (c (.agg #[y,y,y,y])) (i 14)) (i 4)) (i 12)) (i 3))) (u 3 1 (u 2 1 (u 1 1 (u 0 1 (c (.agg #[y,y,y,y])) (i
 10)) (i 3)) (i 16)) (i 4))) (u 3 1 (u 2 1 (u 1 1 (u 0 1 (c (.agg #[y,y,y,y])) (i 7)) (i 2)) (i 19)) (i 5))) (u 3 1 (u 2 1 (u 1 1 (u 0 1 (c (.agg #[y,y,y,y])) (i 4)) (i 1)) (i 22))
 (i 6))))],some (.ef [] (.new 202) [(c (.agg #[y,y,y,y,y,y,y,y,y,y,y,y,y,y,y,y,y,y,y,y,y,y,y,y]))] (some 3))⟩,⟨[],some (.ef [] (.st 24) [(v 3),(v 4)] none)⟩]) (q (q (r 5 (.pick (b
 .lss (v 0) (i 0)) t (b .geq (v 0) (i 6)))) (.cond (v 5) (q (.reg [⟨[],some (.pst 1 (.upd (.cnt 1) 1 4 (p 1) (c (.agg #[y,y,y,y]))))⟩,(s [(l 2 z)])]) .ret) .skip)) (q (.reg
 [⟨[],some (.pst 1 (.upd (.cnt 1) 1 4 (p 1) (o (.ldn 4) (o2 (.aadr 6 4) (v 3) (v 0)))))⟩,(s [(l 2 t)])]) .ret)))),[(o (.ldn 4) (p 1)),(v 2)]⟩
def F108 : SFun := ⟨1,16,(q (.reg [(w 1 (v 0)),(s [(l 2 (c .nilIface))])]) (q (q (r 5 (.pick (.pick (.pick (b .lss (f 0 (p 1)) (i 1)) t (b .gtr (f 0 (p 1)) (i 3))) t (b .lss (f 1 (p 1)) (i 0))) t (b
 .gtr (f 1 (p 1)) (i 7)))) (.cond (v 5) (q (r 2 (o (.iface 111) (i 1))) .ret) .skip)) (q (.reg [(k 107 [(f 2 (p 1))] 6),⟨[(l 7 (x 0 (v 6))),(l 8 (x 1 (v 6)))],some (.pnew 3 (c (.agg
 #[y,y,y,y])))⟩,⟨[],some (.pst 3 (.upd (.cnt 3) 3 4 (p 3) (v 7)))⟩,(s [(l 4 (v 8))])]) (q (q (.dreg (.eff true [⟨[((.pick (o .not (v 4)) t (b .lss (f 3 (p 1)) (i 0))),false)],0,(f 3
 (p 1))⟩] ⟨[(l 9 (.pick (o .not (v 4)) t (b .lss (f 3 (p 1)) (i 0)))),⟨[((.pick (o .not (v 4)) t (b .lss (f 3 (p 1)) (i 0))),false)],10,(f 3 (p 1))⟩],some (.ef [((.pick (o .not (v
 4)) t (b .lss (f 3 (p 1)) (i 0))),false)] (.call 117) [(f 1 (p 3))] (some 11))⟩ (.eff true [⟨[((.pick (.pick (v 9) t (b .geq (v 10) (v 11))) t (b .lss (f 4 (p 1)) (i
 0))),false)],0,(f 4 (p 1))⟩] ⟨[(l 12 (.pick (.pick (v 9) t (b .geq (v 10) (v 11))) t (b .lss (f 4 (p 1)) (i 0)))),⟨[((.pick (.pick (v 9) t (b .geq (v 10) (v 11))) t (b .lss (f 4 (p
 1)) (i 0))),false)],13,(f 4 (p 1))⟩],some (.ef [((.pick (.pick (v 9) t (b .geq (v 10) (v 11))) t (b .lss (f 4 (p 1)) (i 0))),false)] (.call 117) [(f 3 (p 3))] (some 14))⟩ (.done (s
 [(l 15 (.pick (.pick (.pick (v 12) t (b .geq (v 13) (v 14))) t (b .lss (f 5 (p 1)) (i 0))) t (b .geq (f 5 (p 1)) (i 16777216))))]))))) (.cond (v 15) (q (r 2 (o (.iface 111) (i 1)))
 .ret) .skip)) (q (r 2 (c .nilIface)) .ret))))),[(v 2)]⟩
def F112 : SFun := ⟨4,13,(q (r1 (w 4 (v 0))) (q (r 5 (v 1)) (m 0 (.block 1 (q (r 6 (b .add (b .mul (i 2) (v 5)) (i 1))) (q (q (r 7 (b .geq (v 6) (v 2))) (.cond (v 7) (.exit 0) .skip)) (q (q (.reg
 [⟨[(l 8 (b .lss (b .add (v 6) (i 1)) (v 2)))],some (.ef [((b .lss (b .add (v 6) (i 1)) (v 2)),true)] .cal [(f 0 (p 4)),(b .add (v 3) (v 6)),(b .add (b .add (v 3) (v 6)) (i 1))]
 (some 9))⟩,(s [(l 10 (.pick (v 8) (v 9) z))])]) (.cond (v 10) (r 6 (b .add (v 6) (i 1))) .skip)) (q (q (.reg [(e .cal [(f 0 (p 4)),(b .add (v 3) (v 5)),(b .add (v 3) (v 6))] 11),(s
 [(l 12 (o .not (v 11)))])]) (.cond (v 12) .ret .skip)) (q (r1 ⟨[],some (.ef [] .cal [(f 1 (p 4)),(b .add (v 3) (v 5)),(b .add (v 3) (v 6))] none)⟩) (r 5 (v 6))))))))))),[]⟩
def F113 : SFun := ⟨1,4,(q (r 1 (c (.int .u64 0))) (q (.reg [(k 76 [(o (.conv .u64) (v 0))] 3),(s [(l 2 (o (.conv .u64) (v 3)))])]) (q (r 1 (b .shl (c (.int .u64 1)) (v 2))) .ret))),[(v 1)]⟩
def F114 : SFun := ⟨1,2,(q (r 1 (c (.int .u64 0))) (q (.dreg (.eff false [] ⟨[],some (.ef [] (.st 1) [(n (v 0)),(b .xor (d (n (v 0))) (b .shl (d (n (v 0))) (c (.int .u64 13))))] none)⟩ (.done (s
 [])))) (q (.dreg (.eff false [] ⟨[],some (.ef [] (.st 1) [(n (v 0)),(b .xor (d (n (v 0))) (b .shr (d (n (v 0))) (c (.int .u64 7))))] none)⟩ (.done (s [])))) (q (.dreg (.eff false
 [] ⟨[],some (.ef [] (.st 1) [(n (v 0)),(b .xor (d (n (v 0))) (b .shl (d (n (v 0))) (c (.int .u64 17))))] none)⟩ (.done (s [])))) (q (r 1 (d (n (v 0)))) .ret))))),[(v 1)]⟩
def F115 : SFun := ⟨3,6,(q (.reg [(w 3 (v 0)),(s [(l 4 (i 0))])]) (q (.reg [(k 116 [(o (.ldn 2) (p 3)),(b .sub (v 1) (i 1)),(v 1),(b .add (v 1) (i 1)),(v 2)] 5),(s [(l 4 (v 5))])]) .ret)),[(v 4)]⟩
def F116 : SFun := ⟨5,10,(q (.reg [(w 5 (v 0)),(s [(l 6 (i 0))])]) (q (.reg [(k 129 [(o (.ldn 2) (p 5)),(v 1),(v 2),(v 4)] 7),(s [(l 1 (x 0 (v 7))),(l 2 (x 1 (v 7)))])]) (q (.reg [(k 129 [(o (.ldn 2)
 (p 5)),(v 2),(v 3),(v 4)] 8),(s [(l 2 (x 0 (v 8))),(l 3 (x 1 (v 8)))])]) (q (.reg [(k 129 [(o (.ldn 2) (p 5)),(v 1),(v 2),(v 4)] 9),(s [(l 1 (x 0 (v 9))),(l 2 (x 1 (v 9)))])]) (q
 (r 6 (v 2)) .ret))))),[(v 6)]⟩
def F117 : SFun := ⟨1,6,(q (r 1 (i 0)) (q (r 2 (i 1)) (q (q (r1 (s [(l 3 (v 0)),(l 4 (i 0))])) (m 0 (q (r 5 (b .lss (v 4) (v 3))) (q (h (v 5) 0) (q (.block 1 (r 2 (b .mul (v 2) (i 10)))) (r 4 (b .add
 (v 4) (i 1)))))))) (q (r 1 (v 2)) .ret)))),[(v 1)]⟩
def F129 : SFun := ⟨4,8,(q (.reg [(w 4 (v 0)),(s [(l 5 (i 0)),(l 6 (i 0))])]) (q (q (r1 (e .cal [(f 0 (p 4)),(v 2),(v 1)] 7)) (.cond (v 7) (q (r1 ⟨[],some (.ef [] (.st 1) [(n (v 3)),(b .add (d (n (v
 3))) (i 1))] none)⟩) (q (r1 (s [(l 5 (v 2)),(l 6 (v 1))])) .ret)) .skip)) (q (r1 (s [(l 5 (v 1)),(l 6 (v 2))])) .ret))),[(v 5),(v 6)]⟩
def F168 : SFun := ⟨1,9,(q (.reg [(w 1 (v 0)),(s [(l 2 (i 0))])]) (q (q (r 4 (.pick (b .lss (o .slen (f 0 (p 1))) (i 1)) t (b .gtr (o .slen (f 0 (p 1))) (i 12)))) (.cond (v 4) (q (r 2 (i 4)) .ret)
 .skip)) (q (q (r 3 (i 0)) (m 0 (q (q (r 5 (b .lss (v 3) (o .slen (f 0 (p 1))))) (h (v 5) 0)) (q (.block 1 (q (r 6 (.pick (b .lss (o2 .sidx (f 0 (p 1)) (v 3)) (c (.int .u8 97))) t
 (b .gtr (o2 .sidx (f 0 (p 1)) (v 3)) (c (.int .u8 122))))) (.cond (v 6) (q (r 2 (i 4)) .ret) .skip))) (r 3 (b .add (v 3) (i 1))))))) (q (q (r 7 (.pick (.pick (.pick (.pick (.pick
 (.pick (.pick (.pick (.pick (b .lss (f 1 (p 1)) (i 0)) t (b .gtr (f 1 (p 1)) (i 3))) t (b .lss (f 2 (p 1)) (i 0))) t (b .gtr (f 2 (p 1)) (i 7))) t (b .lss (f 3 (p 1)) (i 0))) t (b
 .gtr (f 3 (p 1)) (i 7))) t (b .lss (f 4 (p 1)) (i (-1)))) t (b .gtr (f 4 (p 1)) (i 7))) t (b .lss (f 5 (p 1)) (i 1))) t (b .gtr (f 5 (p 1)) (i 50)))) (.cond (v 7) (q (r 2 (i 1))
 .ret) .skip)) (q (q (r 8 (.pick (.pick (b .eql (f 2 (p 1)) (f 3 (p 1))) t (b .eql (f 2 (p 1)) (f 4 (p 1)))) t (b .eql (f 3 (p 1)) (f 4 (p 1))))) (.cond (v 8) (q (r 2 (i 3)) .ret)
 .skip)) (q (r 2 (i 0)) .ret)))))),[(v 2)]⟩
def F170 : SFun := ⟨1,7,(q (.reg [(w 1 (v 0)),(s [(l 2 (c .nilIface))])]) (q (q (.reg [(k 186 [(f 0 (p 1))] 3),(s [(l 4 (o .not (v 3)))])]) (.cond (v 4) (q (r 2 (o (.iface 111) (i 4))) .ret) .skip))
 (q (q (r 5 (.pick (.pick (.pick (.pick (.pick (.pick (.pick (.pick (.pick (b .lss (f 1 (p 1)) (i 0)) t (b .gtr (f 1 (p 1)) (i 3))) t (b .lss (f 2 (p 1)) (i 0))) t (b .geq (f 2 (p
 1)) (i 8))) t (b .lss (f 3 (p 1)) (i 0))) t (b .geq (f 3 (p 1)) (i 8))) t (b .lss (f 4 (p 1)) (i (-1)))) t (b .geq (f 4 (p 1)) (i 8))) t (b .lss (f 5 (p 1)) (i 1))) t (b .gtr (f 5
 (p 1)) (i 50)))) (.cond (v 5) (q (r 2 (o (.iface 111) (i 1))) .ret) .skip)) (q (q (r 6 (.pick (.pick (b .eql (f 2 (p 1)) (f 3 (p 1))) t (b .eql (f 4 (p 1)) (f 2 (p 1)))) t (b .eql
 (f 4 (p 1)) (f 3 (p 1))))) (.cond (v 6) (q (r 2 (o (.iface 111) (i 3))) .ret) .skip)) (q (r 2 (c .nilIface)) .ret))))),[(v 2)]⟩
def F174 : SFun := ⟨4,23,(q (.reg [(w 4 (v 1)),(s [(l 5 z)])]) (q (q (.reg [(k 170 [(o (.ldn 6) (p 4))] 10),⟨[(l 11 (o2 (.eqv .iface true) (v 10) (c .nilIface)))],some (.ef [((o2 (.eqv .iface true)
 (v 10) (c .nilIface)),false)] (.call 50) [(v 0),(v 2),(f 3 (p 4)),(v 3)] (some 12))⟩,(s [(l 13 (.pick (v 11) t (o .not (v 12))))])]) (.cond (v 13) (q (r 5 z) .ret) .skip)) (q (.reg
 [(k 81 [(v 2)] 14),⟨[(l 15 (x 0 (v 14))),(l 16 (x 1 (v 14)))],some (.pnew 6 (c g6))⟩,⟨[],some (.pst 6 (.upd (.cnt 6) 6 6 (p 6) (v 15)))⟩,(s [(l 7 (v 16))])]) (q (q (r 17 (.pick (o2
 (.eqv .iface true) (v 7) (c .nilIface)) t (.pick (b .gtr (f 1 (p 4)) (i 0)) (b .neq (f 0 (p 6)) (f 1 (p 4))) z))) (.cond (v 17) (q (r 5 z) .ret) .skip)) (q (q (r 8 (b .sub (v 3) (i
 1))) (m 0 (q (q (r 18 (b .geq (v 8) (o2 .max (i 0) (b .sub (v 3) (f 5 (p 4)))))) (h (v 18) 0)) (q (.block 1 (q (q (r1 (k 50 [(v 0),(v 2),(f 2 (p 4)),(v 8)] 19)) (.cond (v 19) (q (r
 5 t) .ret) .skip)) (q (.reg [(k 30 [(v 0),(v 2),(v 8)] 20),(s [(l 9 (x 0 (v 20))),(l 22 (x 1 (v 20)))])]) (q (r 21 (.pick (b .geq (f 4 (p 4)) (i 0)) (b .eql (v 9) (f 4 (p 4))) z))
 (.cond (v 21) (q (r 5 z) .ret) .skip))))) (r 8 (b .sub (v 8) (i 1))))))) (q (r 5 z) .ret)))))),[(v 5)]⟩
def F186 : SFun := ⟨1,7,(q (r 1 z) (q (q (r1 (s [(l 3 (o .slen (v 0))),(l 4 (i 0))])) (m 0 (q (r 5 (b .lss (v 4) (v 3))) (q (h (v 5) 0) (q (.block 1 (q (r 2 (v 4)) (q (r 6 (.pick (b .lss (o2 .sidx (v
 0) (v 2)) (c (.int .u8 97))) t (b .gtr (o2 .sidx (v 0) (v 2)) (c (.int .u8 122))))) (.cond (v 6) (q (r 1 z) .ret) .skip)))) (r 4 (b .add (v 4) (i 1)))))))) (q (r 1 (.pick (b .neq
 (v 0) (c y0)) (b .leq (o .slen (v 0)) (i 12)) z)) .ret))),[(v 1)]⟩
def F264 : SFun := ⟨2,8,(q (r 2 z) (q (q (r 5 (b .gtr (o .llen (v 0)) (v 1))) (.cond (v 5) (q (r 2 z) .ret) .skip)) (q (r 3 (i 0)) (q (q (r 4 (i 0)) (m 0 (q (q (r 6 (b .lss (v 4) (o .llen (v 0)))) (h
 (v 6) 0)) (q (.block 1 (q (q (r 7 (.pick (.pick (b .gtr (o .slen (f 2 (j 7 (v 0) (v 4)))) (i 400)) (b .leq (o .slen (f 2 (j 7 (v 0) (v 4)))) (i 2000)) z) t (b .gtr (o .slen (f 2 (j
 7 (v 0) (v 4)))) (i 3000)))) (.cond (v 7) (q (r 2 z) .ret) .skip)) (r 3 (b .add (v 3) (o2 .min (o .slen (f 2 (j 7 (v 0) (v 4)))) (i 500)))))) (r 4 (b .add (v 4) (i 1))))))) (q (r 2
 (b .lss (v 3) (i 6000))) .ret))))),[(v 2)]⟩
def F265 : SFun := ⟨1,6,(q (r 1 z) (q (q (r 3 (b .gtr (o .llen (v 0)) (i 9))) (.cond (v 3) (q (r 1 z) .ret) .skip)) (q (q (r 2 (i 0)) (m 0 (q (q (r 4 (b .lss (v 2) (o .llen (v 0)))) (h (v 4) 0)) (q
 (.block 1 (q (r 5 (b .gtr (o .slen (f 0 (j 6 (v 0) (v 2)))) (i 50))) (.cond (v 5) (q (r 1 z) .ret) .skip))) (r 2 (b .add (v 2) (i 1))))))) (q (r 1 t) .ret)))),[(v 1)]⟩
def F266 : SFun := ⟨2,47,(q (.reg [(w 2 (v 0)),(s [(l 3 (c (.pointer none))),(l 4 (c .nilIface))])]) (q (.dreg (.alt true [(l 0 (o (.ldn 22) (p 2)))] ⟨[(l 11 (o (.ldn 22) (p 2))),(l 12 (v 1)),(l 15
 (u 3 1 (u 2 1 (u 1 1 (u 0 1 (c (.agg #[y,y,y,y])) (i (-1))) (i (-1))) (i (-1))) (i (-1))))],some (.ef [] (.app 240 6 56) [(c (.slice none 0 0)),(v 1)] (some 13))⟩ (.eff true [] (e
 .mnew [] 14) (.eff false [] (e (.new 344) [(u 31 4 (u 38 1 (u 22 1 (u 0 22 (c (.agg #[y,y,y,y,y,y,y,y,y,y,y,y,y,y,y,y,y,y,y,y,y,y,(.slice none 0
 0),y0,y,y0,y,y0,y,y0,y,y,y,y,y,(.pointer none),(.pointer none),(.pointer none),(.map none),y,y,y,y,y,(.slice none 0 0)])) (v 11)) (v 13)) (v 14)) (v 15))] 16) (.done (s [(l 5 (v
 16))])))) true [(l 0 (o (.ldn 22) (p 2)))] ⟨[(l 11 (o (.ldn 22) (p 2))),(l 12 (v 1)),(l 15 (u 3 1 (u 2 1 (u 1 1 (u 0 1 (c (.agg #[y,y,y,y])) (i (-1))) (i (-1))) (i (-1))) (i
 (-1))))],some (.ef [] .mnew [] (some 14))⟩ (.eff true [] (e (.app 240 6 56) [(c (.slice none 0 0)),(v 12)] 13) (.eff false [] (e (.new 344) [(u 31 4 (u 38 1 (u 22 1 (u 0 22 (c
 (.agg #[y,y,y,y,y,y,y,y,y,y,y,y,y,y,y,y,y,y,y,y,y,y,(.slice none 0 0),y0,y,y0,y,y0,y,y0,y,y,y,y,y,(.pointer none),(.pointer none),(.pointer none),(.map none),y,y,y,y,y,(.slice none
 0 0)])) (v 11)) (v 13)) (v 14)) (v 15))] 16) (.done (s [(l 5 (v 16))])))))) (q (r 6 (c .nilIface)) (q (.reg [⟨[(l 17 (v 5))],some (.ef [] (.call 33) [(f 0 (p 2)),(f 1 (p 2))] (some
 18))⟩,⟨[(l 19 (x 1 (v 18)))],some (.ef [] (.st 1) [(a 35 (n (v 17))),(x 0 (v 18))] none)⟩,(s [(l 6 (v 19))])]) (q (q (r 20 (o2 (.eqv .iface true) (v 6) (c .nilIface))) (.cond (v
 20) (q (r1 (s [(l 3 (c (.pointer none))),(l 4 (v 6))])) .ret) .skip)) (q (.reg [⟨[(l 21 (v 5))],some (.ef [] (.call 28) [(f 2 (p 2)),(f 3 (p 2))] (some 22))⟩,⟨[(l 23 (x 1 (v
 22)))],some (.ef [] (.st 1) [(a 36 (n (v 21))),(x 0 (v 22))] none)⟩,(s [(l 6 (v 23))])]) (q (q (r 24 (o2 (.eqv .iface true) (v 6) (c .nilIface))) (.cond (v 24) (q (r1 (s [(l 3 (c
 (.pointer none))),(l 4 (v 6))])) .ret) .skip)) (q (.dreg (.eff false [] ⟨[(l 25 (v 5))],some (.ef [] (.call 44) [(f 36 (n (v 5))),(f 4 (p 2)),(f 5 (p 2))] (some 26))⟩ (.eff false
 [] ⟨[(l 27 (x 1 (v 26)))],some (.ef [] (.st 1) [(a 37 (n (v 25))),(x 0 (v 26))] none)⟩ (.done (s [(l 6 (v 27))]))))) (q (q (r 28 (o2 (.eqv .iface true) (v 6) (c .nilIface))) (.cond
 (v 28) (q (r1 (s [(l 3 (c (.pointer none))),(l 4 (v 6))])) .ret) .skip)) (q (q (r1 (s [(l 29 (o (.ldn 16) (a 6 (p 2)))),(l 30 (i 0))])) (m 0 (q (r 31 (b .lss (v 30) (i 4))) (q (h
 (v 31) 0) (q (.block 1 (q (.reg [⟨[(l 32 (o2 (.vidxn 4 4) (v 29) (v 30)))],some (.pnew 7 (c (.agg #[y,y,y,y])))⟩,⟨[],some (.pst 7 (.upd (.cnt 7) 7 4 (p 7) (v 32)))⟩]) (q (r1 (s [(l
 33 (o (.ldn 4) (p 7))),(l 34 (i 0))])) (m 2 (q (r 35 (b .lss (v 34) (i 4))) (q (h (v 35) 2) (q (.block 3 (q (r 8 (o2 (.vidx 4) (v 33) (v 34))) (q (r 36 (.pick (b .lss (v 8) (i
 (-1))) t (b .geq (v 8) (i 8)))) (.cond (v 36) (q (r1 (s [(l 3 (c (.pointer none))),(l 4 (o (.iface 111) (i 1)))])) .ret) .skip)))) (r 34 (b .add (v 34) (i 1)))))))))) (r 30 (b .add
 (v 30) (i 1)))))))) (q (q (r 37 (b .gtr (o .llen (v 1)) (i 6))) (.cond (v 37) (q (r1 (s [(l 3 (c (.pointer none))),(l 4 (o (.iface 111) (i 2)))])) .ret) .skip)) (q (.reg [(e .mnew
 [] 38),(s [(l 9 (v 38))])]) (q (q (r1 (s [(l 39 (v 1)),(l 40 (o .llen (v 1))),(l 41 (i 0))])) (m 4 (q (r 42 (b .lss (v 41) (v 40))) (q (h (v 42) 4) (q (.block 5 (q (.reg [⟨[(l 43
 (o (.ldn 6) (j 6 (v 39) (v 41))))],some (.pnew 10 (c (.agg #[y0,y,y,y,y,y])))⟩,⟨[],some (.pst 10 (.upd (.cnt 10) 10 6 (p 10) (v 43)))⟩]) (q (.reg [(k 170 [(o (.ldn 6) (p 10))]
 44),(s [(l 6 (v 44))])]) (q (q (r 45 (o2 (.eqv .iface true) (v 6) (c .nilIface))) (.cond (v 45) (q (r1 (s [(l 3 (c (.pointer none))),(l 4 (v 6))])) .ret) .skip)) (q (q (r 46 (o2
 (.lkp .str (.bool false)) (v 9) (f 0 (p 10)))) (.cond (v 46) (q (r1 (s [(l 3 (c (.pointer none))),(l 4 (o (.iface 111) (i 7)))])) .ret) .skip)) (r1 ⟨[],some (.ef [] (.mupd .str)
 [(v 9),(f 0 (p 10)),t] none)⟩)))))) (r 41 (b .add (v 41) (i 1)))))))) (q (r1 (s [(l 3 (v 5)),(l 4 (c .nilIface))])) .ret)))))))))))))),[(v 3),(v 4)]⟩
def F267 : SFun := ⟨2,17,(q (.reg [(e (.new 319) [(v 0)] 2),(s [(l 3 (i 0))])]) (q (q (r 8 (.pick (.pick (.pick (.pick (.pick (.pick (.pick (.pick (.pick (.pick (.pick (b .lss (f 0 (v 2)) (i 1)) t (b
 .gtr (f 0 (v 2)) (i 50))) t (b .lss (f 1 (v 2)) (i 0))) t (b .gtr (f 1 (v 2)) (i 50))) t (b .lss (f 2 (v 2)) (i 1))) t (b .gtr (f 2 (v 2)) (i 8))) t (b .lss (f 3 (v 2)) (i 1))) t
 (b .gtr (f 3 (v 2)) (f 2 (v 2)))) t (b .lss (f 4 (v 2)) (i 1))) t (b .gtr (f 4 (v 2)) (i 8))) t (b .lss (f 5 (v 2)) (i 1))) t (b .gtr (f 5 (v 2)) (f 4 (v 2))))) (.cond (v 8) (q (r
 3 (i 1)) .ret) .skip)) (q (q (r 4 (i 0)) (m 0 (q (q (r 9 (b .lss (v 4) (i 16))) (h (v 9) 0)) (q (.block 1 (q (r 10 (.pick (b .lss (d (o2 (.aadr 4 1) (o2 (.aadr 4 4) (a 6 (v 2)) (b
 .quo (v 4) (i 4))) (b .rem (v 4) (i 4)))) (i (-1))) t (b .gtr (d (o2 (.aadr 4 1) (o2 (.aadr 4 4) (a 6 (v 2)) (b .quo (v 4) (i 4))) (b .rem (v 4) (i 4)))) (i 7)))) (.cond (v 10) (q
 (r 3 (i 1)) .ret) .skip))) (r 4 (b .add (v 4) (i 1))))))) (q (q (r 11 (b .gtr (o .llen (v 1)) (i 6))) (.cond (v 11) (q (r 3 (i 2)) .ret) .skip)) (q (q (r 5 (i 0)) (m 2 (q (q (r 12
 (b .lss (v 5) (o .llen (v 1)))) (h (v 12) 2)) (q (.block 3 (q (q (.reg [(k 168 [(o (.ldn 6) (j 6 (v 1) (v 5)))] 13),(s [(l 6 (v 13))])]) (q (r 14 (b .gtr (v 6) (i 0))) (.cond (v
 14) (q (r 3 (v 6)) .ret) .skip))) (q (r 7 (i 0)) (m 4 (q (q (r 15 (b .lss (v 7) (v 5))) (h (v 15) 4)) (q (.block 5 (q (.dreg (.done (s [(l 16 (b .eql (f 0 (j 6 (v 1) (v 7))) (f 0
 (j 6 (v 1) (v 5)))))]))) (.cond (v 16) (q (r 3 (i 7)) .ret) .skip))) (r 7 (b .add (v 7) (i 1))))))))) (r 5 (b .add (v 5) (i 1))))))) (q (r 3 (i 0)) .ret)))))),[(v 3)]⟩
def F269 : SFun := ⟨2,16,(q (r1 (s [(l 2 (i 0)),(l 3 (c .nilIface))])) (q (.reg [(k 34 [(f 35 (n (v 0))),(v 1)] 7),(s [(l 4 (x 0 (v 7))),(l 5 (x 1 (v 7)))])]) (q (q (r 8 (o2 (.eqv .iface true) (v 5)
 (c .nilIface))) (.cond (v 8) (q (r1 (s [(l 2 (i 0)),(l 3 (v 5))])) .ret) .skip)) (q (q (r1 (s [(l 9 (v 4)),(l 10 (o .llen (v 4))),(l 11 (i 0))])) (m 0 (q (r 12 (b .lss (v 11) (v
 10))) (q (h (v 12) 0) (q (.block 1 (q (.reg [⟨[(l 13 (o (.ldn 2) (j 2 (v 9) (v 11))))],some (.pnew 6 (c (.agg #[y,(.slice none 0 0)])))⟩,⟨[],some (.pst 6 (.upd (.cnt 6) 6 2 (p 6)
 (v 13)))⟩]) (q (.dreg (.eff false [] (k 29 [(f 36 (n (v 0))),(f 1 (p 6))] 14) (.done (s [(l 5 (v 14))])))) (q (q (r 15 (o2 (.eqv .iface true) (v 5) (c .nilIface))) (.cond (v 15) (q
 (r1 (s [(l 2 (i 0)),(l 3 (v 5))])) .ret) .skip)) (q (r1 ⟨[],some (.ef [] (.call 46) [(f 37 (n (v 0)))] none)⟩) (r1 ⟨[],some (.ef [] (.call 277) [(v 0),(f 0 (p 6))] none)⟩)))))) (r
 11 (b .add (v 11) (i 1)))))))) (q (r1 (s [(l 2 (o .llen (v 4))),(l 3 (c .nilIface))])) .ret))))),[(v 2),(v 3)]⟩
def F271 : SFun := ⟨3,22,(q (r1 (s [(l 3 (i 0)),(l 4 (c .nilIface))])) (q (q (r 8 (.pick (b .lss (v 1) (i 0)) t (b .geq (v 1) (i 4)))) (.cond (v 8) (q (r1 (s [(l 3 (i 0)),(l 4 (o (.iface 111) (i
 1)))])) .ret) .skip)) (q (q (r 9 (b .gtr (o .slen (v 2)) (i 2000))) (.cond (v 9) (q (r1 (s [(l 3 (i 0)),(l 4 (o (.iface 111) (i 2)))])) .ret) .skip)) (q (.reg [(k 24 [(o2 (.aadr 4
 2) (a 23 (n (v 0))) (v 1)),(v 2)] 10),(s [(l 5 (v 10))])]) (q (q (r1 (s [(l 11 (v 5)),(l 12 (o .llen (v 5))),(l 13 (i 0))])) (m 0 (q (r 14 (b .lss (v 13) (v 12))) (q (h (v 14) 0)
 (q (.block 1 (q (.reg [⟨[(l 15 (o (.ldn 3) (j 3 (v 11) (v 13))))],some (.pnew 6 (c (.agg #[y,(.slice none 0 0),y])))⟩,⟨[],some (.pst 6 (.upd (.cnt 6) 6 3 (p 6) (v 15)))⟩]) (q (q
 (r1 (s [(l 16 (f 1 (p 6))),(l 17 (o .llen (f 1 (p 6)))),(l 18 (i 0))])) (m 2 (q (r 19 (b .lss (v 18) (v 17))) (q (h (v 19) 2) (q (.block 3 (q (.reg [⟨[(l 20 (o (.ldn 4) (j 4 (v 16)
 (v 18))))],some (.pnew 7 (c (.agg #[y,y,y,y0])))⟩,⟨[],some (.pst 7 (.upd (.cnt 7) 7 4 (p 7) (v 20)))⟩]) (r1 ⟨[],some (.ef [] (.call 278) [(v 0),(v 1),(o (.ldn 4) (p 7))] none)⟩)))
 (r 18 (b .add (v 18) (i 1)))))))) (q (r 21 (b .eql (f 0 (p 6)) (i 3))) (.cond (v 21) (.dreg (.eff false [] ⟨[],some (.ef [] (.st 1) [(o2 (.aadr 4 1) (a 31 (n (v 0))) (v 1)),(f 2 (p
 6))] none)⟩ (.done (s [])))) .skip))))) (r 13 (b .add (v 13) (i 1)))))))) (q (r1 (s [(l 3 (o .llen (v 5))),(l 4 (c .nilIface))])) .ret)))))),[(v 3),(v 4)]⟩
def F274 : SFun := ⟨3,6,(q (r1 (s [(l 3 (i 0)),(l 4 (c .nilIface))])) (q (.reg [(k 30 [(f 36 (n (v 0))),(v 1),(v 2)] 5),(s [(l 3 (x 0 (v 5))),(l 4 (x 1 (v 5)))])]) .ret)),[(v 3),(v 4)]⟩
def F276 : SFun := ⟨1,3,(q (r 1 (i 0)) (q (.reg [(k 31 [(f 36 (n (v 0)))] 2),(s [(l 1 (v 2))])]) .ret)),[(v 1)]⟩
def F277 : SFun := ⟨2,27,(q (r1 (e (.new 29) [(c (.slice none 0 0))] 2)) (q (q (r1 (k 54 [(f 36 (n (v 0)))] 7)) (.block 0 (.rfn 71 3 7 8 (r 3 (v 8)) (.block 1 (.reg [⟨[(l 9 (d (v 2)))],some (.ef []
 (.bsl 9 1) [(u 0 1 (c (.agg #[y0])) (v 3))] (some 10))⟩,(e (.app 9 1 16) [(v 9),(v 10)] 11),⟨[],some (.ef [] (.st 1) [(v 2),(v 11)] none)⟩]))))) (q (r1 ⟨[],some (.ef [] (.call 67)
 [(d (v 2))] none)⟩) (q (r1 (s [(l 12 (f 22 (n (v 0)))),(l 13 (o .llen (f 22 (n (v 0))))),(l 14 (i 0))])) (m 2 (q (r 15 (b .lss (v 14) (v 13))) (q (h (v 15) 2) (q (.block 3 (q (.reg
 [⟨[(l 16 (v 14)),(l 17 (o (.ldn 6) (j 6 (v 12) (v 14))))],some (.ef [] (.new 240) [(c (.agg #[y0,y,y,y,y,y]))] (some 5))⟩,⟨[(l 4 (v 16))],some (.ef [] (.st 6) [(v 5),(v 17)]
 none)⟩]) (q (r1 (s [(l 18 (d (v 2))),(l 19 (o .llen (d (v 2)))),(l 20 (i 0))])) (m 4 (q (r 21 (b .lss (v 20) (v 19))) (q (h (v 21) 4) (q (.block 5 (q (r 6 (d (j 1 (v 18) (v 20))))
 (q (.dreg (.eff false [] (k 174 [(f 36 (n (v 0))),(o (.ldn 6) (v 5)),(v 6),(v 1)] 22) (.done (s [])))) (.cond (v 22) (.reg [⟨[(l 23 (v 0)),(l 24 (f 44 (n (v 0))))],some (.ef []
 (.bsl 352 1) [(u 0 3 (c (.agg #[y,y,y0])) (u 2 1 (u 1 1 (u 0 1 (c (.agg #[y,y,y0])) (v 4)) (v 1)) (v 6)))] (some 25))⟩,(e (.app 352 3 32) [(v 24),(v 25)] 26),⟨[],some (.ef [] (.st
 1) [(a 44 (n (v 23))),(v 26)] none)⟩]) .skip)))) (r 20 (b .add (v 20) (i 1)))))))))) (r 14 (b .add (v 14) (i 1))))))))))),[]⟩
def F278 : SFun := ⟨3,22,(q (r1 (w 3 (v 2))) (q (q (.reg [(k 81 [(f 3 (p 3))] 8),⟨[(l 9 (x 0 (v 8))),(l 10 (x 1 (v 8)))],some (.pnew 4 (c g6))⟩,⟨[],some (.pst 4 (.upd (.cnt 4) 4 6 (p 4) (v 9)))⟩,(s
 [(l 5 (v 10))])]) (q (r 11 (o2 (.eqv .iface true) (v 5) (c .nilIface))) (.cond (v 11) (q (r1 ⟨[],some (.ef [] (.st 1) [(a 1 (a 39 (n (v 0)))),(b .add (f 1 (a 39 (n (v 0)))) (i 1))]
 none)⟩) .ret) .skip))) (q (.dreg (.done (s [(l 6 (d (o2 (.aadr 4 1) (o2 (.aadr 4 4) (a 6 (a 0 (n (v 0)))) (v 1)) (f 0 (p 3)))))]))) (q (q (r 12 (b .lss (v 6) (i 0))) (.cond (v 12)
 (q (r1 ⟨[],some (.ef [] (.st 1) [(a 2 (a 39 (n (v 0)))),(b .add (f 2 (a 39 (n (v 0)))) (i 1))] none)⟩) .ret) .skip)) (q (q (.dreg (.done (s [(l 13 (.pick (o .not (o2 (.lkp .str
 (.bool false)) (f 38 (n (v 0))) (f 3 (p 3)))) (b .eql (o .mlen (f 38 (n (v 0)))) (i 12)) z))]))) (.cond (v 13) (q (r1 ⟨[],some (.ef [] (.st 1) [(a 4 (a 39 (n (v 0)))),(b .add (f 4
 (a 39 (n (v 0)))) (i 1))] none)⟩) .ret) .skip)) (q (.dreg (.eff true [(l 0 (f 1 (p 3))),(l 0 (f 2 (p 3))),(l 0 (f 3 (p 3))),(l 0 (f 35 (n (v 0))))] ⟨[(l 14 (f 35 (n (v 0)))),(l 15
 (v 6)),(l 16 (f 1 (p 3))),(l 18 (f 2 (p 3))),(l 19 (f 3 (p 3)))],some (.ef [] (.call 39) [(f 35 (n (v 0)))] (some 17))⟩ (.eff false [] (k 37 [(v 14),(u 3 1 (u 2 1 (u 1 1 (u 0 1 (c
 (.agg #[y,y,y,y0])) (v 15)) (v 16)) (b .sub (v 17) (v 18))) (v 19))] 20) (.done (s [(l 7 (v 20))]))))) (q (q (r 21 (o2 (.eqv .iface true) (v 7) (c .nilIface))) (.cond (v 21) (q (r1
 ⟨[],some (.ef [] (.st 1) [(a 3 (a 39 (n (v 0)))),(b .add (f 3 (a 39 (n (v 0)))) (i 1))] none)⟩) .ret) .skip)) (.dreg (.eff false [] ⟨[],some (.ef [] (.mupd .str) [(f 38 (n (v
 0))),(f 3 (p 3)),t] none)⟩ (.done (s []))))))))))),[]⟩
def F283 : SFun := ⟨1,3,(q (r 1 (c (.slice none 0 0))) (q (.reg [(e (.app 352 3 32) [(c (.slice none 0 0)),(f 44 (n (v 0)))] 2),(s [(l 1 (v 2))])]) .ret)),[(v 1)]⟩
def F291 : SFun := ⟨3,44,(q (.reg [(w 3 (v 0)),(s [(l 4 z)])]) (q (q (.reg [(k 264 [(v 2),(i 50)] 19),(s [(l 20 (o .not (v 19)))])]) (.cond (v 20) (q (r 4 t) .ret) .skip)) (q (.reg [(k 294 [(o (.ldn
 22) (p 3)),(v 1)] 21),(s [(l 5 (x 0 (v 21))),(l 6 (x 1 (v 21)))])]) (q (q (r 22 (o .not (v 6))) (.cond (v 22) (q (.reg [(k 267 [(o (.ldn 22) (p 3)),(v 1)] 23),⟨[(l 24 (b .gtr (v
 23) (i 0)))],some (.ef [((b .gtr (v 23) (i 0)),false)] (.call 265) [(v 1)] (some 25))⟩,(s [(l 4 (.pick (v 24) t (o .not (v 25))))])]) .ret) .skip)) (q (.reg [(k 295 [(v 5),(v 2)]
 26),(s [(l 7 (v 26))])]) (q (q (r 27 (o .not (v 7))) (.cond (v 27) (q (r 4 t) .ret) .skip)) (q (.reg [(k 296 [(v 2)] 28),(s [(l 8 (v 28))])]) (q (.reg [(k 283 [(v 5)] 29),(s [(l 9
 (v 29))])]) (q (r 10 (i 0)) (q (q (r 11 (i 0)) (m 0 (q (q (r 30 (b .lss (v 11) (o .llen (v 8)))) (h (v 30) 0)) (q (.block 1 (q (.reg [(k 81 [(d (j 1 (v 8) (v 11)))] 31),⟨[(l 32 (x
 0 (v 31))),(l 33 (x 1 (v 31)))],some (.pnew 12 (c g6))⟩,⟨[],some (.pst 12 (.upd (.cnt 12) 12 6 (p 12) (v 32)))⟩,(s [(l 13 (v 33))])]) (q (q (r 34 (o2 (.eqv .iface true) (v 13) (c
 .nilIface))) (.cond (v 34) (.exit 1) .skip)) (q (r 14 (i 0)) (m 2 (q (q (r 35 (b .lss (v 14) (o .llen (v 1)))) (h (v 35) 2)) (q (.block 3 (q (r 15 (i 0)) (m 4 (q (q (.reg [⟨[(l 36
 (v 15))],some (.ef [] (.call 276) [(v 5)] (some 37))⟩,(s [(l 38 (b .lss (v 36) (v 37)))])]) (h (v 38) 4)) (q (.block 5 (q (.dreg (.eff false [] ⟨[(l 39 (.pick (b .eql (f 1 (j 6 (v
 1) (v 14))) (i 0)) t (b .eql (f 1 (j 6 (v 1) (v 14))) (f 0 (p 12)))))],some (.ef [((.pick (b .eql (f 1 (j 6 (v 1) (v 14))) (i 0)) t (b .eql (f 1 (j 6 (v 1) (v 14))) (f 0 (p
 12)))),true)] (.call 297) [(v 5),(o (.ldn 6) (j 6 (v 1) (v 14))),(d (j 1 (v 8) (v 11))),(v 15)] (some 40))⟩ (.done (s [(l 16 (.pick (v 39) (v 40) z))])))) (q (r 17 z) (q (q (r 18
 (i 0)) (m 6 (q (q (r 41 (b .lss (v 18) (o .llen (v 9)))) (h (v 41) 6)) (q (.block 7 (.dreg (.done (s [(l 17 (.pick (v 17) t (o2 (.eqv (.flat [.int,.int,.str]) false) (o (.ldn 3) (j
 3 (v 9) (v 18))) (u 2 1 (u 1 1 (u 0 1 (c (.agg #[y,y,y0])) (v 14)) (v 15)) (d (j 1 (v 8) (v 11)))))))])))) (r 18 (b .add (v 18) (i 1))))))) (q (q (r 42 (o2 (.eqv .bool true) (v 16)
 (v 17))) (.cond (v 42) (q (r 4 z) .ret) .skip)) (q (r 43 (v 17)) (.cond (v 43) (r 10 (b .add (v 10) (i 1))) .skip))))))) (r 15 (b .add (v 15) (i 1)))))))) (r 14 (b .add (v 14) (i
 1)))))))))) (r 11 (b .add (v 11) (i 1))))))) (q (r 4 (.pick (b .eql (v 10) (o .llen (v 9))) t (b .eql (o .llen (v 8)) (i 40)))) .ret))))))))))),[(v 4)]⟩
def F294 : SFun := ⟨2,10,(q (.reg [(w 2 (v 0)),(s [(l 3 (c (.pointer none))),(l 4 z)])]) (q (q (.reg [(k 265 [(v 1)] 7),(s [(l 8 (o .not (v 7)))])]) (.cond (v 8) (q (r1 (s [(l 3 (c (.pointer
 none))),(l 4 z)])) .ret) .skip)) (q (.reg [(k 266 [(o (.ldn 22) (p 2)),(v 1)] 9),(s [(l 5 (x 0 (v 9))),(l 6 (x 1 (v 9)))])]) (q (r1 (s [(l 3 (v 5)),(l 4 (.pick (o2 (.eqv .iface
 false) (v 6) (c .nilIface)) (o2 (.eqv .ptr true) (v 5) (c (.pointer none))) z))])) .ret)))),[(v 3),(v 4)]⟩
def F295 : SFun := ⟨2,14,(q (r 2 z) (q (q (r 3 (i 0)) (m 0 (q (q (r 4 (b .lss (v 3) (o .llen (v 1)))) (h (v 4) 0)) (q (.block 1 (q (q (r 5 (b .neq (f 0 (j 7 (v 1) (v 3))) (c (.string
 ⟨#[116,105,99,107]⟩)))) (.cond (v 5) (q (.dreg (.eff false [] (k 271 [(v 0),(f 1 (j 7 (v 1) (v 3))),(f 2 (j 7 (v 1) (v 3)))] 6) (.done (s [(l 10 (x 1 (v 6))),(l 12 (x 0 (v
 6)))])))) (.exit 1)) .skip)) (q (.reg [(k 269 [(v 0),(f 1 (j 7 (v 1) (v 3)))] 7),(s [(l 11 (x 1 (v 7))),(l 13 (x 0 (v 7)))])]) (q (.reg [(k 276 [(v 0)] 8),(s [(l 9 (b .gtr (v 8) (i
 60)))])]) (.cond (v 9) (q (r 2 z) .ret) .skip))))) (r 3 (b .add (v 3) (i 1))))))) (q (r 2 t) .ret))),[(v 2)]⟩
def F296 : SFun := ⟨1,20,(q (r 1 (c (.slice none 0 0))) (q (r 2 (c (.slice none 0 0))) (q (r1 (e (.new 341) [(c (.agg #[y0,y,y0,y,y0,y,y0,y]))] 3)) (q (q (r 4 (i 0)) (m 0 (q (q (r 10 (b .lss (v 4) (o
 .llen (v 0)))) (h (v 10) 0)) (q (.block 1 (q (q (r 11 (.pick (.pick (.pick (b .eql (f 0 (j 7 (v 0) (v 4))) (c (.string ⟨#[116,105,99,107]⟩))) t (b .lss (f 1 (j 7 (v 0) (v 4))) (i
 0))) t (b .gtr (f 1 (j 7 (v 0) (v 4))) (i 3))) t (b .gtr (o .slen (f 2 (j 7 (v 0) (v 4)))) (i 2000)))) (.cond (v 11) (.exit 1) .skip)) (q (.dreg (.eff false [] (k 24 [(o2 (.aadr 4
 2) (v 3) (f 1 (j 7 (v 0) (v 4)))),(f 2 (j 7 (v 0) (v 4)))] 12) (.done (s [(l 5 (v 12))])))) (q (r 6 (i 0)) (m 2 (q (q (r 13 (b .lss (v 6) (o .llen (v 5)))) (h (v 13) 2)) (q (.block
 3 (q (r 7 (i 0)) (m 4 (q (q (r 14 (.pick (b .lss (v 7) (o .llen (f 1 (j 3 (v 5) (v 6))))) (b .lss (o .llen (v 2)) (i 40)) z)) (h (v 14) 4)) (q (.block 5 (q (r 8 t) (q (q (r 9 (i
 0)) (m 6 (q (q (r 15 (b .lss (v 9) (o .llen (v 2)))) (h (v 15) 6)) (q (.block 7 (.dreg (.done (s [(l 8 (.pick (v 8) (b .neq (d (j 1 (v 2) (v 9))) (f 3 (j 4 (f 1 (j 3 (v 5) (v 6)))
 (v 7)))) z))])))) (r 9 (b .add (v 9) (i 1))))))) (q (r 16 (v 8)) (.cond (v 16) (.reg [⟨[(l 17 (v 2))],some (.ef [] (.bsl 9 1) [(u 0 1 (c (.agg #[y0])) (f 3 (j 4 (f 1 (j 3 (v 5) (v
 6))) (v 7))))] (some 18))⟩,(e (.app 9 1 16) [(v 17),(v 18)] 19),(s [(l 2 (v 19))])]) .skip))))) (r 7 (b .add (v 7) (i 1)))))))) (r 6 (b .add (v 6) (i 1)))))))))) (r 4 (b .add (v 4)
 (i 1))))))) (q (r 1 (v 2)) .ret))))),[(v 1)]⟩
def F297 : SFun := ⟨4,19,(q (.reg [(w 4 (v 1)),(s [(l 5 z)])]) (q (.reg [(k 299 [(v 0),(v 2),(f 3 (p 4)),(v 3)] 11),(s [(l 6 (v 11))])]) (q (q (r 12 (o .not (v 6))) (.cond (v 12) (q (r 5 z) .ret)
 .skip)) (q (q (r 7 (o2 .max (i 0) (b .sub (v 3) (f 5 (p 4))))) (m 0 (q (q (r 13 (b .lss (v 7) (v 3))) (h (v 13) 0)) (q (.block 1 (q (.reg [(k 299 [(v 0),(v 2),(f 2 (p 4)),(v 7)]
 14),(s [(l 8 (v 14))])]) (q (q (r 9 (b .add (v 7) (i 1))) (m 2 (q (q (r 15 (.pick (b .lss (v 9) (v 3)) (v 8) z)) (h (v 15) 2)) (q (.block 3 (q (.reg [(k 274 [(v 0),(v 2),(v 9)]
 16),(s [(l 10 (x 0 (v 16))),(l 18 (x 1 (v 16)))])]) (r 8 (.pick (b .lss (f 4 (p 4)) (i 0)) t (b .neq (v 10) (f 4 (p 4))))))) (r 9 (b .add (v 9) (i 1))))))) (q (r 17 (v 8)) (.cond
 (v 17) (q (r 5 t) .ret) .skip))))) (r 7 (b .add (v 7) (i 1))))))) (q (r 5 z) .ret))))),[(v 5)]⟩
def F299 : SFun := ⟨4,13,(q (r 4 z) (q (.reg [(k 274 [(v 0),(v 1),(v 3)] 8),(s [(l 5 (x 0 (v 8))),(l 6 (x 1 (v 8)))])]) (q (q (r 9 (.pick (o2 (.eqv .iface true) (v 6) (c .nilIface)) t (b .neq (v 5)
 (v 2)))) (.cond (v 9) (q (r 4 z) .ret) .skip)) (q (q (r 10 (b .eql (v 3) (i 0))) (.cond (v 10) (q (r 4 t) .ret) .skip)) (q (.reg [(k 274 [(v 0),(v 1),(b .sub (v 3) (i 1))] 11),(s
 [(l 7 (x 0 (v 11))),(l 12 (x 1 (v 11)))])]) (q (r 4 (b .neq (v 7) (v 2))) .ret)))))),[(v 4)]⟩
end Go.Cw
namespace Go.Cw
open Go
def objAt (h : Heap) (a : Addr) (cs : List Value) : Prop :=
  a.spot = none ∧ ∃ c t, h a.block = some (.cells c t (0, 0)) ∧ a.off + cs.length ≤ c.size ∧ ∀ i, i < cs.length → c[a.off + i]? = cs[i]?
theorem objAt.le {h h' : Heap} {a : Addr} {cs : List Value} (ho : objAt h a cs) (hl : Heap.le h h') : objAt h' a cs := by
  obtain ⟨h1, c, t, h2, h3, h4⟩ := ho; exact ⟨h1, c, t, hl _ _ h2, h3, h4⟩
theorem objAt.row {h : Heap} {a : Addr} {cs : List Value} (ho : objAt h a cs) : rowAt h a cs := by
  obtain ⟨h1, c, t, h2, h3, h4⟩ := ho; exact ⟨h1, c, t, _, h2, h3, h4⟩
theorem objAt.rules {h : Heap} {a : Addr} {cs : List Value} (ho : objAt h a cs) : (∀ j, j < cs.length → h.cell (a.add j) = cs[j]?) ∧ (0 < cs.length → h.cell a = cs[0]?) ∧ h.row a cs.length = some cs.toArray := by
  have hr := ho.row
  refine ⟨fun j hj => by rw [hr.cell hj, List.getElem?_eq_getElem hj], fun hj => ?_, ?_⟩
  · have := hr.cell hj; rw [addr_zero] at this; rw [this, List.getElem?_eq_getElem hj]
  · have := hr.row (i := 0) (n := cs.length) oM
    rw [addr_zero] at this; rw [this]; simp
def keeps (a : Addr) (n : Nat) (h h' : Heap) : Prop :=
  (∀ b o, b ≠ a.block → h b = some o → h' b = some o) ∧
  (∀ c t fz, h a.block = some (.cells c t fz) → ∃ c', h' a.block = some (.cells c' t fz) ∧ c'.size = c.size ∧ ∀ i, i < a.off ∨ a.off + n ≤ i → c'[i]? = c[i]?)
theorem keeps.of_le {a : Addr} {n : Nat} {h h' : Heap} (hl : Heap.le h h') : keeps a n h h' := ⟨fun b o _ hb => hl b o hb, fun c t fz hc => ⟨c, hl _ _ hc, rfl, fun _ _ => rfl⟩⟩
theorem keeps.refl (a : Addr) (n : Nat) (h : Heap) : keeps a n h h := .of_le (Heap.le.refl h)
theorem keeps.trans {a : Addr} {n : Nat} {h h' h'' : Heap} (k1 : keeps a n h h') (k2 : keeps a n h' h'') : keeps a n h h'' := by
  refine ⟨fun b o hb h1 => k2.1 b o hb (k1.1 b o hb h1), fun c t fz hc => ?_⟩
  obtain ⟨c', h1, h2, h3⟩ := k1.2 c t fz hc
  obtain ⟨c'', h4, h5, h6⟩ := k2.2 c' t fz h1
  exact ⟨c'', h4, h5.trans h2, fun i hi => (h6 i hi).trans (h3 i hi)⟩
theorem keeps.le {a : Addr} {n : Nat} {g h h' : Heap} (k : keeps a n h h') (hg : Heap.le g h) (hn : g a.block = none) : Heap.le g h' := by
  intro b o hb
  exact k.1 b o (by intro e; subst e; rw [hn] at hb; cases hb) (hg b o hb)
def fr (h h' : Heap) : Heap := fun b => match h b with
  | none => h' b
  | some _ => none
theorem fr_le (h h' : Heap) : Heap.le (fr h h') h' := by
  intro b o hb; simp only [fr] at hb; split at hb
  · exact hb
  · cases hb
theorem fr_none {h h' : Heap} {b : Nat} {o : Obj} (hb : h b = some o) : fr h h' b = none := by simp [fr, hb]
theorem fr_mono {h h' h'' : Heap} (hl : Heap.le h' h'') : Heap.le (fr h h') (fr h h'') := by
  intro b o hb; simp only [fr] at hb ⊢; split at hb
  · exact hl b o hb
  · cases hb
theorem fr_anti {g h h' : Heap} (hl : ∀ b, h b = none → g b = none) : Heap.le (fr h h') (fr g h') := by
  intro b o hb; simp only [fr] at hb ⊢
  split at hb
  · rename_i h1; rw [hl b h1]; exact hb
  · cases hb
theorem le_none {g h : Heap} (hl : Heap.le g h) : ∀ b, h b = none → g b = none := by
  intro b hb
  cases hg : g b with
  | none => rfl
  | some o => rw [hl b o hg] at hb; cases hb
def join (g g' : Heap) : Heap := fun b => (g b).orElse fun _ => g' b
theorem join_l (g g' : Heap) : Heap.le g (join g g') := by intro b o hb; simp [join, hb]
theorem join_r {g g' h : Heap} (h1 : Heap.le g h) (h2 : Heap.le g' h) : Heap.le g' (join g g') := by
  intro b o hb
  simp only [join]
  cases hg : g b with
  | none => simpa using hb
  | some o' => have a1 := h1 b o' hg; have a2 := h2 b o hb; rw [a1] at a2; simpa using a2
theorem join_le {g g' h : Heap} (h1 : Heap.le g h) (h2 : Heap.le g' h) : Heap.le (join g g') h := by
  intro b o hb
  simp only [join] at hb
  cases hg : g b with
  | none => rw [hg] at hb; exact h2 b o (by simpa using hb)
  | some o' => rw [hg] at hb; simp at hb; subst hb; exact h1 b _ hg
theorem join_none {g g' : Heap} {b : Nat} (h1 : g b = none) (h2 : g' b = none) : join g g' b = none := by simp [join, h1, h2]
theorem OwnS.grow {α : Type} {enc : α → List Value} {sz : Nat} {g h h1 : Heap} {v : Value} {l : List α} (ho : OwnS enc sz g h v l) (hl : Heap.le h h1) : OwnS enc sz (join g (fr h h1)) h1 v l := by
  obtain ⟨a0, a, cap, h2, h3, h4, h5⟩ := ho
  refine ⟨join_le (a0.trans hl) (fr_le _ _), a, cap, h2, h3, h4, h5.imp id ?_⟩
  rintro ⟨b, c, t, a1, a2, a3, a4⟩
  exact ⟨b, c, t, a1, join_none a2 (fr_none a3), hl _ _ a3, a4⟩
theorem Heap.set_ne {h : Heap} {b b' : Nat} {o : Obj} (e : b' ≠ b) : (h.set b o) b' = h b' := by simp [Heap.set, e]
theorem Heap.set_eq {h : Heap} {b : Nat} {o : Obj} : (h.set b o) b = some o := by simp [Heap.set]
theorem OwnS.set {α : Type} {enc : α → List Value} {sz : Nat} {g h : Heap} {v : Value} {l : List α} (ho : OwnS enc sz g h v l) {b : Nat} {o o' : Obj} (hb : g b = some o) : OwnS enc sz (g.set b o') (h.set b o') v l := by
  obtain ⟨a0, a, cap, h2, h3, h4, h5⟩ := ho
  refine ⟨?_, a, cap, h2, h3, h4, h5.imp id ?_⟩
  · intro x y hx
    by_cases e : x = b
    · subst e; rw [Heap.set_eq] at hx ⊢; exact hx
    · rw [Heap.set_ne e] at hx ⊢; exact a0 x y hx
  · rintro ⟨b', c, t, a1, a2, a3, a4⟩
    have e : b' ≠ b := by intro e; subst e; rw [hb] at a2; cases a2
    exact ⟨b', c, t, a1, by rw [Heap.set_ne e]; exact a2, by rw [Heap.set_ne e]; exact a3, a4⟩
theorem i_st {N : Num} {Γ : Ctx} {h : Heap} {a : Addr} {cs : List Value} (ho : objAt h a cs) (j n : Nat) {x : Value} (hx : x.cells.size = n) (h1 : x.cells.toList.all one = true) (hn : 0 < n) (hj : j + n ≤ cs.length) {K : Value → Heap → Prop}
    (hK : ∀ o, (∀ g : Heap, g a.block = h a.block → objAt (g.set a.block o) a (cs.take j ++ x.cells.toList ++ cs.drop (j + n))) → (∀ g : Heap, g a.block = h a.block → keeps a cs.length g (g.set a.block o)) → K undef (h.set a.block o)) :
    efW N Γ (.st n) [.pointer (some (a.add j)), x] h K := by
  obtain ⟨hs, c, t, h2, h3, h4⟩ := ho
  have hlen : x.cells.toList.length = n := by simp [hx]
  have hpg := fun i => putL_get c x.cells.toList (a.off + j) i oM
  refine ⟨hx, h.set a.block (.cells (putL c (a.off + j) x.cells.toList) t (0, 0)), ?_, ?_⟩
  · rw [addr_add' a hs]
    cases hl : x.cells.toList with
    | nil => rw [hl] at hlen; simp at hlen; omega
    | cons y ys =>
      have h5 : a.off + j + (y :: ys).length ≤ c.size := by rw [← hl]; omega
      have h6 : (y :: ys).all one = true := by rw [← hl]; exact h1
      simp only [putRow, Option.isSome_none, Bool.false_eq_true, if_false, h2]
      rw [if_pos ⟨h5, h6⟩]
  · refine hK _ (fun g hg => ⟨hs, _, t, Heap.set_eq, ?_, ?_⟩) (fun g hg => ⟨?_, ?_⟩)
    · rw [(hpg 0).1]; simp only [List.length_append, List.length_take, List.length_drop, hlen]; omega
    · intro i hi
      simp only [List.length_append, List.length_take, List.length_drop, hlen] at hi
      rw [(hpg _).2]
      by_cases e : a.off + j ≤ a.off + i ∧ a.off + i < a.off + j + x.cells.toList.length
      · rw [if_pos e, List.append_assoc, List.getElem?_append_right (by simp; omega), List.getElem?_append_left (by simp only [List.length_take]; omega)]
        congr 1; simp only [List.length_take]; omega
      · rw [if_neg e, h4 i oM]
        by_cases e2 : i < j
        · rw [List.append_assoc, List.getElem?_append_left (by simp only [List.length_take]; omega), List.getElem?_take_of_lt e2]
        · rw [List.getElem?_append_right (by simp only [List.length_append, List.length_take, hlen]; omega)]
          rw [List.getElem?_drop]
          congr 1; simp only [List.length_append, List.length_take, hlen]; omega
    · intro b o hb h5; rw [Heap.set_ne hb]; exact h5
    · intro c' t' fz h5
      rw [hg, h2] at h5
      cases h5
      refine ⟨_, Heap.set_eq, (hpg 0).1, fun i hi => ?_⟩
      rw [(hpg i).2, if_neg oM]
theorem i_newO {N : Num} {Γ : Ctx} {h : Heap} {t : Nat} {x : Value} {K : Value → Heap → Prop}
    (hx : ∀ b h', Heap.le h h' → h b = none → objAt (fr h h') ⟨b, 0, none⟩ x.cells.toList → K (.pointer (some ⟨b, 0, none⟩)) h') : efW N Γ (.new t) [x] h K := by
  intro b hb
  refine hx b _ ((Heap.le.refl h).new hb _) hb ⟨rfl, x.cells, N.tid t, ?_, by simp, fun i hi => by simp⟩
  simp [fr, hb, Heap.set]
end Go.Cw
namespace Go.Cw
open Go
inductive Ty where
  | int | str | bool | nil
  | cons (a b : Ty)
  | sl (e : Ty)
  deriving DecidableEq
def Ty.size : Ty → Nat
  | .int | .str | .bool | .sl _ => 1
  | .nil => 0
  | .cons a b => a.size + b.size
def full (w : World) : Heap := fun b => w.heap[b]?
theorem full_sub (w : World) : (full w).sub w := fun _ _ h => h
def Mat (w : World) : Ty → List Value → Prop
  | .int, cs => ∃ n, cs = [.int .i64 n] ∧ (Lit.int .i64 n).wf = true
  | .str, cs => ∃ s, cs = [.string s] ∧ s.size ≤ maxLen
  | .bool, cs => ∃ b, cs = [.bool b]
  | .nil, cs => cs = []
  | .cons a b, cs => ∃ x y, cs = x ++ y ∧ Mat w a x ∧ Mat w b y
  | .sl e, cs => ∃ a n cap, cs = [.slice a n cap] ∧ n ≤ cap ∧ cap ≤ maxLen ∧ (n = 0 ∨ ∃ g, a = some g ∧ ∃ rows : List (List Value), rows.length = n ∧ rowAt (full w) g rows.flatten ∧ ∀ r ∈ rows, Mat w e r)
def chkFs (P : Program) (chk : TypeId → Ty → Bool) : List Field → Nat → Ty → Bool
  | [], _, .nil => true
  | f :: r, off, .cons a b => f.offset == off && P.cellsOf f.type == a.size && chk f.type a && chkFs P chk r (off + a.size) b
  | _, _, _ => false
def chkAr (P : Program) (chk : TypeId → Ty → Bool) (e : TypeId) : Nat → Ty → Bool
  | 0, .nil => true
  | n + 1, .cons a b => P.cellsOf e == a.size && chk e a && chkAr P chk e n b
  | _, _ => false
def chk (P : Program) : Nat → TypeId → Ty → Bool
  | 0, _, _ => false
  | n + 1, t, ty =>
    match P.underlying t with
    | some (.int .i64) => ty == .int
    | some .string => ty == .str
    | some .bool => ty == .bool
    | some (.slice e) =>
      match ty with
      | .sl x => P.cellsOf e == x.size && decide (0 < x.size) && chk P n e x
      | _ => false
    | some (.struct fs) => P.cellsOf t == ty.size && chkFs P (chk P n) fs.toList 0 ty
    | some (.array k e) => P.cellsOf t == ty.size && chkAr P (chk P n) e k ty
    | _ => false
theorem mapM_some {α β : Type} {f : α → Option β} : ∀ {l : List α} {r : List β}, l.mapM f = some r → r.length = l.length ∧ ∀ i (h : i < l.length) (h' : i < r.length), f l[i] = some r[i] := by
  intro l
  induction l with
  | nil => intro r h; simp at h; subst h; simp
  | cons a l ih =>
    intro r h
    simp only [List.mapM_cons, Option.bind_eq_bind, Option.bind_eq_some_iff, Option.pure_def, Option.some.injEq] at h
    obtain ⟨y, h1, ys, h2, rfl⟩ := h
    obtain ⟨h3, h4⟩ := ih h2
    refine ⟨by simp [h3], fun i hi hi' => ?_⟩
    cases i with
    | zero => simpa using h1
    | succ i => simpa using h4 i (by simpa using hi) (by simpa using hi')
theorem cells_row {w : World} {a : Addr} {n : Nat} {cs : List Value} (h : w.cells? 0 a n = some cs) (hn : 0 < n) : cs.length = n ∧ a.spot = none ∧ ∀ i (hi : i < cs.length), w.cell? (a.add i) = some cs[i] := by
  simp only [World.cells?, Nat.zero_le, if_true] at h
  obtain ⟨h1, h2⟩ := mapM_some h
  have hl : cs.length = n := by simpa using h1
  refine ⟨hl, ?_, fun i hi => ?_⟩
  · have h3 := h2 0 (by simpa using hn) oM
    simp only [List.getElem_range, addr_zero] at h3
    exact World.cell?_spot h3
  · have := h2 i (by simpa using by omega) hi
    simpa using this
theorem row_of_cells {w : World} {a : Addr} {cs : List Value} (hs : a.spot = none) (h : ∀ i (hi : i < cs.length), w.cell? (a.add i) = some cs[i]) (hne : cs ≠ []) : rowAt (full w) a cs := by
  have hb : ∀ i (hi : i < cs.length), ∃ c t fz, w.heap[a.block]? = some (.cells c t fz) ∧ c[a.off + i]? = some cs[i] := by
    intro i hi
    have h1 := h i hi
    rw [addr_add' a hs] at h1
    simp only [World.cell?] at h1
    split at h1
    · rename_i c t fz hh; exact ⟨c, t, fz, hh, by simpa using h1⟩
    · cases h1
  have hl : 0 < cs.length := List.length_pos_iff.2 hne
  obtain ⟨c, t, fz, h1, _⟩ := hb 0 hl
  refine ⟨hs, c, t, fz, h1, ?_, ?_⟩
  · obtain ⟨c', t', fz', h2, h3⟩ := hb (cs.length - 1) oM
    rw [h1] at h2; cases h2
    have := (Array.getElem?_eq_some_iff.1 h3).1
    omega
  · intro i hi
    obtain ⟨c', t', fz', h2, h3⟩ := hb i hi
    rw [h1] at h2; cases h2
    rw [h3, List.getElem?_eq_getElem hi]
variable {H : Type} {enc : TypeId × Value → H} {P : Program} {w : World}
theorem mat_fs {n : Nat} (ih : ∀ (t : TypeId) (ty : Ty) (fuel : Nat) (cs : List Value) (x : DataW H × List MemPlace), chk P n t ty = true → DataW.trod enc P w 0 (fun _ => true) true fuel t cs = some x → Mat w ty cs) (fuel : Nat) (cs : List Value) :
    ∀ (fs : List Field) (off : Nat) (ty : Ty), chkFs P (chk P n) fs off ty = true → cs.length = off + ty.size →
      (∀ f ∈ fs, ∃ x, DataW.trod enc P w 0 (fun _ => true) true fuel f.type ((cs.drop f.offset).take (P.cellsOf f.type)) = some x) → Mat w ty (cs.drop off) := by
  intro fs
  induction fs with
  | nil =>
    intro off ty h1 h2 _
    cases ty <;> simp [chkFs] at h1
    simp only [Ty.size] at h2
    show cs.drop off = []
    exact List.drop_eq_nil_of_le oM
  | cons f r ihr =>
    intro off ty h1 h2 h3
    cases ty with
    | cons a b =>
      simp only [chkFs, Bool.and_eq_true, beq_iff_eq] at h1
      obtain ⟨⟨⟨e1, e2⟩, e3⟩, e4⟩ := h1
      obtain ⟨y, h5⟩ := h3 f (by simp)
      simp only [Ty.size] at h2
      refine ⟨(cs.drop off).take a.size, cs.drop (off + a.size), ?_, ?_, ?_⟩
      · rw [← List.drop_drop, List.take_append_drop]
      · rw [e1, e2] at h5; exact ih _ _ _ _ _ e3 h5
      · exact ihr _ _ e4 oM fun g hg => h3 g (by simp [hg])
    | _ => simp [chkFs] at h1
theorem mat_ar {n : Nat} (ih : ∀ (t : TypeId) (ty : Ty) (fuel : Nat) (cs : List Value) (x : DataW H × List MemPlace), chk P n t ty = true → DataW.trod enc P w 0 (fun _ => true) true fuel t cs = some x → Mat w ty cs) (fuel : Nat) (cs : List Value) (e : TypeId) :
    ∀ (k i : Nat) (ty : Ty), chkAr P (chk P n) e k ty = true → cs.length = i * P.cellsOf e + ty.size →
      (∀ j, j < k → ∃ x, DataW.trod enc P w 0 (fun _ => true) true fuel e ((cs.drop ((i + j) * P.cellsOf e)).take (P.cellsOf e)) = some x) → Mat w ty (cs.drop (i * P.cellsOf e)) := by
  intro k
  induction k with
  | zero =>
    intro i ty h1 h2 _
    cases ty <;> simp [chkAr] at h1
    simp only [Ty.size] at h2
    show cs.drop _ = []
    exact List.drop_eq_nil_of_le oM
  | succ k ihk =>
    intro i ty h1 h2 h3
    cases ty with
    | cons a b =>
      simp only [chkAr, Bool.and_eq_true, beq_iff_eq] at h1
      obtain ⟨⟨e2, e3⟩, e4⟩ := h1
      simp only [Ty.size] at h2
      obtain ⟨x, h5⟩ := h3 0 oM
      have e6 : i * P.cellsOf e + a.size = (i + 1) * P.cellsOf e := by rw [Nat.add_mul, e2]; omega
      refine ⟨(cs.drop (i * P.cellsOf e)).take a.size, cs.drop ((i + 1) * P.cellsOf e), ?_, ?_, ?_⟩
      · rw [← e6, ← List.drop_drop, List.take_append_drop]
      · rw [Nat.add_zero] at h5; rw [← e2]; exact ih _ _ _ _ _ e3 h5
      · refine ihk (i + 1) b e4 oM fun j hj => ?_
        have := h3 (j + 1) oM
        rwa [show i + (j + 1) = i + 1 + j by omega] at this
    | _ => simp [chkAr] at h1
theorem mat_of_trod : ∀ (n : Nat) (t : TypeId) (ty : Ty) (fuel : Nat) (cs : List Value) (x : DataW H × List MemPlace), chk P n t ty = true → DataW.trod enc P w 0 (fun _ => true) true fuel t cs = some x → Mat w ty cs := by
  intro n
  induction n with
  | zero => intro t ty fuel cs x h; simp [chk] at h
  | succ n ih =>
    intro t ty fuel cs x hc h
    cases fuel with
    | zero => simp [DataW.trod] at h
    | succ fuel =>
      simp only [chk] at hc
      split at hc
      · rename_i hu
        simp only [beq_iff_eq] at hc; subst hc
        obtain ⟨m, rfl, _, h1⟩ := DataW.trod_int hu h
        exact ⟨m, rfl, h1⟩
      · rename_i hu
        simp only [beq_iff_eq] at hc; subst hc
        obtain ⟨m, rfl, _, h1⟩ := DataW.trod_string hu h
        exact ⟨m, rfl, h1⟩
      · rename_i hu
        simp only [beq_iff_eq] at hc; subst hc
        obtain ⟨m, rfl, _⟩ := DataW.trod_bool hu h
        exact ⟨m, rfl⟩
      · rename_i e hu
        split at hc
        · rename_i y
          simp only [Bool.and_eq_true, beq_iff_eq, decide_eq_true_eq] at hc
          obtain ⟨⟨e1, e2⟩, e3⟩ := hc
          rcases DataW.trod_slice hu h with ⟨rfl, _⟩ | ⟨a, len, cap, elems, rest, m, _, rfl, _, _, hl, hm, hlen, hel, _⟩
          · exact ⟨none, 0, 0, rfl, Nat.le_refl _, Nat.zero_le _, .inl rfl⟩
          · refine ⟨some a, len, cap, rfl, hl, hm, ?_⟩
            by_cases h0 : len = 0
            · exact .inl h0
            · have key : ∀ i, i < len → ∃ r, w.cells? 0 (a.add (i * P.cellsOf e)) (P.cellsOf e) = some r ∧ Mat w y r := by
                intro i hi
                have h5 := hel i hi
                rw [List.getElem?_eq_getElem oM, Option.bind_eq_some_iff] at h5
                obtain ⟨r, h6, h7⟩ := h5
                exact ⟨r, h6, ih _ _ _ _ _ e3 h7⟩
              have h9' : a.spot = none := by
                obtain ⟨r, h6, h7⟩ := key 0 oM
                obtain ⟨_, h9, _⟩ := cells_row h6 oM
                rw [Nat.zero_mul, addr_zero] at h9
                exact h9
              have hrows : ∀ k, k ≤ len → ∃ rows : List (List Value), rows.length = k ∧ (∀ r ∈ rows, Mat w y r) ∧ rows.flatten.length = k * y.size ∧ ∀ i (hi : i < rows.flatten.length), w.cell? (a.add i) = some rows.flatten[i] := by
                intro k
                induction k with
                | zero => intro _; exact ⟨[], rfl, by simp, by simp, by simp⟩
                | succ k ihk =>
                  intro hk
                  obtain ⟨rows, r1, r2, r3, r4⟩ := ihk oM
                  obtain ⟨r, h6, h7⟩ := key k oM
                  obtain ⟨h8, h9, h10⟩ := cells_row h6 oM
                  refine ⟨rows ++ [r], by simp [r1], ?_, ?_, ?_⟩
                  · intro x hx; simp at hx; rcases hx with hx | rfl
                    · exact r2 x hx
                    · exact h7
                  · simp [List.flatten_append, r3, h8, e1, Nat.add_mul]
                  · intro i hi
                    have e5 : (rows ++ [r]).flatten = rows.flatten ++ r := by simp
                    simp only [e5] at hi ⊢
                    by_cases hlt : i < rows.flatten.length
                    · rw [List.getElem_append_left hlt]; exact r4 i hlt
                    · rw [List.getElem_append_right oM]
                      simp only [List.length_append] at hi
                      have := h10 (i - rows.flatten.length) oM
                      rw [← this, addr_add' a h9', addr_add' a h9', addr_add' _ rfl]
                      congr 2
                      simp only
                      rw [r3, e1]; omega
              obtain ⟨rows, r1, r2, r3, r4⟩ := hrows len (Nat.le_refl _)
              have hne : rows.flatten ≠ [] := by
                intro h; rw [h] at r3
                have : 0 < len * y.size := Nat.mul_pos oM e2
                simp at r3; omega
              exact .inr ⟨a, rfl, rows, r1, row_of_cells h9' r4 hne, r2⟩
        · cases hc
      · rename_i fs hu
        simp only [Bool.and_eq_true, beq_iff_eq] at hc
        obtain ⟨xs, m, h0, _, h1, h2, h3⟩ := DataW.trod_struct hu h
        have := mat_fs (enc := enc) ih m cs fs.toList 0 ty hc.2 oM (by
          intro f hf
          obtain ⟨i, hi, rfl⟩ := List.getElem_of_mem hf
          have hi' : i < fs.size := by simpa using hi
          have h4 := h3 i fs[i] (by simp [hi'])
          rw [List.getElem?_eq_getElem oM] at h4
          exact ⟨_, by simpa using h4⟩)
        simpa using this
      · rename_i k e hu
        simp only [Bool.and_eq_true, beq_iff_eq] at hc
        obtain ⟨xs, m, h0, _, h1, h2, h3⟩ := DataW.trod_array hu h
        have := mat_ar (enc := enc) ih m cs e k 0 ty hc.2 oM (by
          intro j hj
          have h4 := h3 j hj
          rw [List.getElem?_eq_getElem oM] at h4
          exact ⟨_, by simpa using h4⟩)
        simpa using this
      · cases hc
end Go.Cw
namespace Go.Cw
open Go Go.RowKit
theorem mat_sl {w : World} {α : Type} {enc : α → List Value} {ty : Ty} {Good : α → Prop} (hc : ∀ cs, Mat w ty cs → ∃ x, Good x ∧ cs = enc x) {v : Value} (hm : Mat w (.sl ty) [v]) :
    ∃ l : List α, Sl enc (full w) v l ∧ (∀ x ∈ l, Good x) ∧ l.length ≤ maxLen := by
  obtain ⟨a, n, cap, e, h1, h2, h3⟩ := hm
  simp only [List.cons.injEq, and_true] at e
  subst e
  rcases h3 with rfl | ⟨g, rfl, rows, h4, h5, h6⟩
  · exact ⟨[], ⟨a, cap, rfl, by simp, .inl rfl⟩, by simp, by simp⟩
  · have key : ∀ rows : List (List Value), (∀ r ∈ rows, Mat w ty r) → ∃ l : List α, rows.flatten = l.flatMap enc ∧ l.length = rows.length ∧ ∀ x ∈ l, Good x := by
      intro rows
      induction rows with
      | nil => intro _; exact ⟨[], rfl, rfl, by simp⟩
      | cons r rows ih =>
        intro hr
        obtain ⟨l, a1, a2, a3⟩ := ih fun r hr' => hr r (by simp [hr'])
        obtain ⟨x, b1, b2⟩ := hc r (hr r (by simp))
        exact ⟨x :: l, by simp [a1, b2], by simp [a2], by simp; exact ⟨b1, a3⟩⟩
    obtain ⟨l, a1, a2, a3⟩ := key rows h6
    refine ⟨l, ⟨some g, cap, by rw [a2, h4], by rw [a2, h4]; exact h1, .inr ⟨g, rfl, by rw [← a1]; exact h5⟩⟩, a3, by rw [a2, h4]; omega⟩
theorem mat_int {w : World} {b : Ty} {cs : List Value} (h : Mat w (.cons .int b) cs) : ∃ n r, cs = .int .i64 n :: r ∧ Mat w b r := by
  obtain ⟨x, y, rfl, ⟨n, rfl, _⟩, h2⟩ := h
  exact ⟨n, y, rfl, h2⟩
theorem mat_str {w : World} {b : Ty} {cs : List Value} (h : Mat w (.cons .str b) cs) : ∃ (s : List UInt8) (r : List Value), cs = .string (str s) :: r ∧ s.length ≤ maxLen ∧ Mat w b r := by
  obtain ⟨x, y, rfl, ⟨n, rfl, h1⟩, h2⟩ := h
  exact ⟨n.data.toList, y, by rw [str_of]; rfl, by simpa using h1, h2⟩
def rdTy : Ty := .cons .int (.cons .int (.cons .int (.cons .str .nil)))
theorem mat_cell {w : World} {v : Value} {a : Option Addr} {n c : Nat} {ty : Ty} (he : v = .slice a n c) (h : Mat w ty v.cells.toList) : Mat w ty [v] := by subst he; simpa [Value.cells] using h
theorem law_calls {P : Program} {N : Num} {k : Nat} {f : FuncId} {args : List Value} {w : World} (hf : N.fid k = f) {fn : Func} (hn : P.funcs[f]? = some fn) (hb : (fn.body.isNone || fn.name == "runtime.NumGoroutine") = false) (h : GF P N k args (full w) fun v h' => v = .bool true ∧ Heap.le (full w) h') :
    Calls P f args.toArray w fun e w' => e = .returned (.bool true) ∧ Below w.heap.size w w' := by
  subst hf
  simp only [Bool.or_eq_false_iff] at hb
  rcases h with h | h
  rotate_left
  · exfalso
    obtain ⟨v, h', w', h1, _⟩ := h w (full_sub w)
    have hn' : fn.name ≠ "runtime.NumGoroutine" := by simpa using hb.2
    obtain ⟨c, hc⟩ : ∃ c, fn.body = some c := by
      cases hh : fn.body with
      | none => rw [hh] at hb; simp at hb
      | some c => exact ⟨c, rfl⟩
    simp [callFunc, program, Sem.run, hn, hn', hc] at h1
  refine (h.2 w (full_sub w)).mono ?_
  rintro e w' ⟨v, h', rfl, ⟨rfl, hle⟩, hs⟩
  refine ⟨rfl, hs.os, hs.tape, hs.output, hs.size, fun b hb => ?_⟩
  have h1 : full w b = some w.heap[b] := by simp [full, hb]
  rw [hs.sub b _ (hle b _ h1)]
  simp [hb]
end Go.Cw
namespace Go.Cw
open Go
def disj (f g : Heap) : Prop := ∀ b, f b ≠ none → g b = none
theorem disj.symm {f g : Heap} (h : disj f g) : disj g f := by
  intro b hb
  cases hf : f b with
  | none => rfl
  | some o => exact absurd (h b (by rw [hf]; simp)) hb
structure Step (g h g' h' : Heap) : Prop where
  le : Heap.le g' h'
  frame : ∀ b o, h b = some o → g b = none → h' b = some o
  fresh : ∀ b, h b ≠ none → g b = none → g' b = none
theorem Step.refl {g h : Heap} (hl : Heap.le g h) : Step g h g h := ⟨hl, fun _ _ h _ => h, fun _ _ h => h⟩
theorem Step.trans {g h g' h' g'' h'' : Heap} (a : Step g h g' h') (b : Step g' h' g'' h'') : Step g h g'' h'' := by
  refine ⟨b.le, fun x o h1 h2 => ?_, fun x h1 h2 => ?_⟩
  · exact b.frame x o (a.frame x o h1 h2) (a.fresh x (by rw [h1]; simp) h2)
  · refine b.fresh x ?_ (a.fresh x h1 h2)
    cases hx : h x with
    | none => exact absurd hx h1
    | some o => rw [a.frame x o hx h2]; simp
theorem Step.keep {g h g' h' f : Heap} (a : Step g h g' h') (hf : Heap.le f h) (hd : disj f g) : Heap.le f h' ∧ disj f g' := by
  refine ⟨fun b o hb => a.frame b o (hf b o hb) (hd b (by rw [hb]; simp)), fun b hb => ?_⟩
  cases hfb : f b with
  | none => exact absurd hfb hb
  | some o => exact a.fresh b (by rw [hf b o hfb]; simp) (hd b hb)
theorem Step.alloc {g h h' : Heap} (hg : Heap.le g h) (hl : Heap.le h h') : Step g h (join g (fr h h')) h' := by
  refine ⟨join_le (hg.trans hl) (fr_le _ _), fun b o h1 _ => hl b o h1, fun b h1 h2 => ?_⟩
  cases hb : h b with
  | none => exact absurd hb h1
  | some o => exact join_none h2 (fr_none hb)
theorem Step.more {g h h' : Heap} (hg : Heap.le g h) (hl : Heap.le h h') : Step g h g h' := ⟨hg.trans hl, fun b o h1 _ => hl b o h1, fun _ _ h => h⟩
theorem Step.set {g h : Heap} (hg : Heap.le g h) {b : Nat} (hb : g b ≠ none) (o : Obj) : Step g h (g.set b o) (h.set b o) := by
  refine ⟨?_, fun x y h1 h2 => ?_, fun x h1 h2 => ?_⟩
  · intro x y hx
    by_cases e : x = b
    · subst e; rw [Heap.set_eq] at hx ⊢; exact hx
    · rw [Heap.set_ne e] at hx ⊢; exact hg x y hx
  · have e : x ≠ b := by intro e; subst e; exact hb h2
    rw [Heap.set_ne e]; exact h1
  · have e : x ≠ b := by intro e; subst e; exact hb h2
    rw [Heap.set_ne e]; exact h2
theorem Step.part {g h g' h' f : Heap} (a : Step g h g' h') (hf : Heap.le f h) (hd : disj f g) : Step (join f g) h (join f g') h' := by
  obtain ⟨k1, k2⟩ := a.keep hf hd
  refine ⟨join_le k1 a.le, fun b o h1 h2 => ?_, fun b h1 h2 => ?_⟩
  · have hg : g b = none := by
      simp only [join] at h2
      cases hfb : f b with
      | none => rw [hfb] at h2; simpa using h2
      | some x => rw [hfb] at h2; simp at h2
    exact a.frame b o h1 hg
  · have hfb : f b = none := by
      cases hfb : f b with
      | none => rfl
      | some x => simp only [join, hfb] at h2; simp at h2
    have hg : g b = none := by simp only [join, hfb] at h2; simpa using h2
    exact join_none hfb (a.fresh b h1 hg)
section
variable {κ ν : Type} [DecidableEq κ]
class KeyOk (kb : Bk) (ek : κ → Value) : Prop where
  eq : ∀ a b, cellEq kb (ek a) (ek b) = some (decide (a = b))
def encKS (s : List UInt8) : Value := .string (str s)
def encKI (n : Int) : Value := .int .i64 n
instance : KeyOk .str encKS where
  eq := by intro a b; simp [cellEq, encKS, str_beq]
instance : KeyOk .int encKI where
  eq := by
    intro a b
    simp only [cellEq, encKI, if_true]
    rfl
def lookI : List (κ × ν) → κ → Nat → Option (Nat × ν)
  | [], _, _ => none
  | p :: r, k, i => if k = p.1 then some (i, p.2) else lookI r k (i + 1)
def look (kv : List (κ × ν)) (k : κ) : Option ν := (lookI kv k 0).map (·.2)
def upd : List (κ × ν) → κ → ν → List (κ × ν)
  | [], k, v => [(k, v)]
  | p :: r, k, v => if k = p.1 then (k, v) :: r else p :: upd r k v
theorem lookI_shift (kv : List (κ × ν)) (k : κ) : ∀ (i j : Nat), lookI kv k (i + j) = (lookI kv k i).map fun p => (p.1 + j, p.2) := by
  induction kv with
  | nil => intro i j; rfl
  | cons p r ih =>
    intro i j
    simp only [lookI]
    split
    · rfl
    · rw [show i + j + 1 = (i + 1) + j by omega, ih]
theorem look_nil (k : κ) : look ([] : List (κ × ν)) k = none := rfl
theorem look_cons (p : κ × ν) (r : List (κ × ν)) (k : κ) : look (p :: r) k = if k = p.1 then some p.2 else look r k := by
  unfold look
  simp only [lookI]
  split
  · rfl
  · have := lookI_shift r k 0 1
    rw [this]; cases lookI r k 0 <;> rfl
theorem look_upd (kv : List (κ × ν)) (k k' : κ) (v : ν) : look (upd kv k v) k' = if k' = k then some v else look kv k' := by
  induction kv with
  | nil => simp only [upd, look_cons, look_nil]
  | cons p r ih =>
    simp only [upd]
    split
    · rename_i e; subst e
      simp only [look_cons]
      split
      · rfl
      · rfl
    · rename_i e
      simp only [look_cons, ih]
      by_cases e1 : k' = p.1
      · have e2 : k' ≠ k := by intro e3; exact e (e3.symm.trans e1)
        rw [if_pos e1, if_neg e2, if_pos e1]
      · rw [if_neg e1, if_neg e1]
theorem look_mem {kv : List (κ × ν)} {k : κ} {v : ν} (h : look kv k = some v) : (k, v) ∈ kv := by
  induction kv with
  | nil => simp [look_nil] at h
  | cons p r ih =>
    rw [look_cons] at h
    split at h
    · rename_i e; cases h; subst e; simp
    · exact List.mem_cons_of_mem _ (ih h)
theorem look_none {kv : List (κ × ν)} {k : κ} (h : look kv k = none) : k ∉ kv.map (·.1) := by
  induction kv with
  | nil => simp
  | cons p r ih =>
    rw [look_cons] at h
    split at h
    · cases h
    · rename_i e
      have := ih h
      simp only [List.map_cons, List.mem_cons, not_or]
      exact ⟨e, this⟩
theorem look_of_mem {kv : List (κ × ν)} (hn : (kv.map (·.1)).Nodup) {k : κ} {v : ν} (h : (k, v) ∈ kv) : look kv k = some v := by
  induction kv with
  | nil => simp at h
  | cons p r ih =>
    rw [look_cons]
    simp only [List.map_cons, List.nodup_cons] at hn
    simp only [List.mem_cons] at h
    rcases h with rfl | h
    · simp
    · have : k ≠ p.1 := by rintro rfl; exact hn.1 (List.mem_map.2 ⟨_, h, rfl⟩)
      rw [if_neg this]; exact ih hn.2 h
theorem upd_keys (kv : List (κ × ν)) (k : κ) (v : ν) : (upd kv k v).map (·.1) = if k ∈ kv.map (·.1) then kv.map (·.1) else kv.map (·.1) ++ [k] := by
  induction kv with
  | nil => simp [upd]
  | cons p r ih =>
    simp only [upd]
    split
    · rename_i e; subst e; simp
    · rename_i e
      simp only [List.map_cons, ih, List.mem_cons]
      by_cases h : k ∈ r.map (·.1)
      · simp [h]
      · simp [h, e]
theorem upd_nodup {kv : List (κ × ν)} (hn : (kv.map (·.1)).Nodup) (k : κ) (v : ν) : ((upd kv k v).map (·.1)).Nodup := by
  rw [upd_keys]
  split
  · exact hn
  · rename_i h
    rw [List.nodup_append]
    refine ⟨hn, by simp, ?_⟩
    intro a ha b hb e
    simp at hb; subst hb; subst e; exact h ha
def mkE (ek : κ → Value) (ev : ν → Value) (p : κ × ν) (b : Nat) : MapEntry := { key := ek p.1, val := ev p.2, born := b }
def MapB (ek : κ → Value) (ev : ν → Value) (g : Heap) (m : Nat) (kv : List (κ × ν)) (bs : List Nat) (ck : Nat) : Prop :=
  ∃ es : Array MapEntry, g m = some (.map es ck) ∧ es.toList = List.zipWith (mkE ek ev) kv bs ∧ bs.length = kv.length ∧ bs.Nodup ∧ (∀ b ∈ bs, b < ck) ∧ (kv.map (·.1)).Nodup
omit [DecidableEq κ] in
theorem MapB.le {ek : κ → Value} {ev : ν → Value} {g h : Heap} {m : Nat} {kv : List (κ × ν)} {bs : List Nat} {ck : Nat} (hm : MapB ek ev g m kv bs ck) (hl : Heap.le g h) : MapB ek ev h m kv bs ck := by
  obtain ⟨es, h1, h2⟩ := hm; exact ⟨es, hl _ _ h1, h2⟩
theorem findE_eq {kb : Bk} {ek : κ → Value} [hk : KeyOk kb ek] {ev : ν → Value} (k : κ) : ∀ (kv : List (κ × ν)) (bs : List Nat) (i : Nat), bs.length = kv.length →
    findE kb (ek k) (List.zipWith (mkE ek ev) kv bs) i = some ((lookI kv k i).map fun p => (p.1, ev p.2)) := by
  intro kv
  induction kv with
  | nil => intro bs i h; cases bs <;> rfl
  | cons p r ih =>
    intro bs i h
    cases bs with
    | nil => simp at h
    | cons b bs =>
      simp only [List.zipWith_cons_cons, findE, mkE, hk.eq, lookI]
      by_cases e : k = p.1
      · simp [e]
      · simp only [e, decide_false, if_false]
        exact ih bs (i + 1) (by simpa using h)
theorem MapB.rules (kb : Bk) {ek : κ → Value} [KeyOk kb ek] {ev : ν → Value} {h : Heap} {m : Nat} {kv : List (κ × ν)} {bs : List Nat} {ck : Nat} (hm : MapB ek ev h m kv bs ck) :
    (∀ z k, o2V h (.lkp kb z) (.v (.map (some m))) (.v (ek k)) = some (.v (match look kv k with | some x => ev x | none => z))) ∧
    (∀ z k, o2V h (.lkpo kb z) (.v (.map (some m))) (.v (ek k)) = some (.v (match look kv k with | some x => .tuple #[ev x, .bool true] | none => .tuple #[z, .bool false]))) ∧
    (∀ N env, o1V N env h .mlen (.v (.map (some m))) = some (.v (.int .i64 kv.length))) := by
  obtain ⟨es, h1, h2, h3, h4, h5, h6⟩ := hm
  have he : entriesOf h (.map (some m)) = some (List.zipWith (mkE ek ev) kv bs) := by simp [entriesOf, h1, h2]
  refine ⟨fun z k => ?_, fun z k => ?_, fun N env => ?_⟩
  · simp only [o2V, he, Option.bind_some, findE_eq k kv bs 0 h3, Option.map_some, look]
    cases lookI kv k 0 <;> rfl
  · simp only [o2V, he, Option.bind_some, findE_eq k kv bs 0 h3, Option.map_some, look]
    cases lookI kv k 0 <;> rfl
  · simp only [o1V, he, Option.map_some, List.length_zipWith, h3, Nat.min_self]
theorem lookI_spec : ∀ (kv : List (κ × ν)) (k : κ) (i j : Nat) (v : ν), lookI kv k i = some (j, v) → i ≤ j ∧ kv[j - i]? = some (k, v) ∧ ∀ w, upd kv k w = kv.set (j - i) (k, w) := by
  intro kv
  induction kv with
  | nil => intro k i j v h; simp [lookI] at h
  | cons p r ih =>
    intro k i j v h
    simp only [lookI] at h
    split at h
    · rename_i e; cases h; subst e
      refine ⟨Nat.le_refl _, by simp, fun w => by simp [upd]⟩
    · rename_i e
      obtain ⟨h1, h2, h3⟩ := ih _ _ _ _ h
      have e2 : j - i = (j - (i + 1)) + 1 := oM
      refine ⟨oM, by rw [e2]; simpa using h2, fun w => ?_⟩
      rw [e2]; simp [upd, e, h3 w]
theorem lookI_none {kv : List (κ × ν)} {k : κ} {i : Nat} (h : lookI kv k i = none) : k ∉ kv.map (·.1) ∧ ∀ w, upd kv k w = kv ++ [(k, w)] := by
  induction kv generalizing i with
  | nil => simp [upd]
  | cons p r ih =>
    simp only [lookI] at h
    split at h
    · cases h
    · rename_i e
      obtain ⟨h1, h2⟩ := ih h
      refine ⟨?_, fun w => by simp [upd, e, h2 w]⟩
      simp only [List.map_cons, List.mem_cons, not_or]; exact ⟨e, h1⟩
omit [DecidableEq κ] in
theorem zip_modify {ek : κ → Value} {ev : ν → Value} : ∀ (kv : List (κ × ν)) (bs : List Nat) (j : Nat) (k : κ) (v w : ν), bs.length = kv.length → kv[j]? = some (k, v) →
    (List.zipWith (mkE ek ev) kv bs).modify j (fun e => { e with key := ek k, val := ev w }) = List.zipWith (mkE ek ev) (kv.set j (k, w)) bs := by
  intro kv
  induction kv with
  | nil => intro bs j k v w h hj; simp at hj
  | cons p r ih =>
    intro bs j k v w h hj
    cases bs with
    | nil => simp at h
    | cons b bs =>
      cases j with
      | zero => simp [mkE]
      | succ j => simpa using ih bs j k v w (by simpa using h) (by simpa using hj)
theorem i_mupd {kb : Bk} {ek : κ → Value} [KeyOk kb ek] {ev : ν → Value} {N : Num} {Γ : Ctx} {g h : Heap} {m : Nat} {kv : List (κ × ν)} {bs : List Nat} {ck : Nat} (hm : MapB ek ev g m kv bs ck) (hg : Heap.le g h) (k : κ) (v : ν) {K : Value → Heap → Prop}
    (hK : ∀ o bs' ck', MapB ek ev (g.set m o) m (upd kv k v) bs' ck' → Step g h (g.set m o) (h.set m o) → (k ∈ kv.map (·.1) → bs' = bs ∧ ck' = ck) → K undef (h.set m o)) : efW N Γ (.mupd kb) [.map (some m), ek k, ev v] h K := by
  obtain ⟨es, h1, h2, h3, h4, h5, h6⟩ := hm
  have hgm : g m ≠ none := by rw [h1]; simp
  refine ⟨es, ck, hg _ _ h1, _, by rw [h2]; exact findE_eq k kv bs 0 h3, ?_⟩
  cases hl : lookI kv k 0 with
  | none =>
    obtain ⟨n1, n2⟩ := lookI_none hl
    simp only [Option.map_none]
    refine hK _ (bs ++ [ck]) (ck + 1) ⟨_, Heap.set_eq, ?_, ?_, ?_, ?_, ?_⟩ (Step.set hg hgm _) (fun hk => absurd hk n1)
    · rw [n2 v]
      simp only [Array.toList_push, h2]
      rw [List.zipWith_append (by simpa using h3.symm)]; simp [mkE]
    · rw [n2 v]; simp [h3]
    · rw [List.nodup_append]
      refine ⟨h4, by simp, ?_⟩
      intro a ha b hb e; simp at hb; subst hb; subst e; exact Nat.lt_irrefl _ (h5 a ha)
    · intro b hb; simp at hb; rcases hb with hb | rfl
      · have := h5 b hb; omega
      · omega
    · exact upd_nodup h6 k v
  | some p =>
    obtain ⟨j, x⟩ := p
    obtain ⟨_, a2, a3⟩ := lookI_spec kv k 0 j x hl
    simp only [Option.map_some]
    rw [Nat.sub_zero] at a2
    have a3' := a3 v
    rw [Nat.sub_zero] at a3'
    refine hK _ bs ck ⟨_, Heap.set_eq, ?_, ?_, h4, h5, ?_⟩ (Step.set hg hgm _) (fun _ => ⟨rfl, rfl⟩)
    · rw [a3', ← zip_modify kv bs j k x v h3 a2, ← h2]; simp
    · rw [a3']; simpa using h3
    · exact upd_nodup h6 k v
omit [DecidableEq κ] in
theorem i_mnew {ek : κ → Value} {ev : ν → Value} {N : Num} {Γ : Ctx} {h : Heap} {K : Value → Heap → Prop}
    (hK : ∀ m h', h m = none → Heap.le h h' → MapB ek ev (fr h h') m ([] : List (κ × ν)) [] 0 → K (.map (some m)) h') : efW N Γ .mnew [] h K := by
  intro m hm
  refine hK m _ hm ((Heap.le.refl h).new hm _) ⟨#[], ?_, by simp, by simp, by simp, by simp, by simp⟩
  simp [fr, hm, Heap.set]
def IterB (h : Heap) (r m : Nat) (ck : Nat) (dn : List Nat) : Prop := h r = some (.mapIter (some m) ck dn.toArray ck)
theorem i_rng {N : Num} {Γ : Ctx} {h : Heap} {m : Nat} {es : Array MapEntry} {ck : Nat} (hm : h m = some (.map es ck)) {K : Value → Heap → Prop}
    (hK : ∀ r h', h r = none → Heap.le h h' → IterB (fr h h') r m ck [] → K (.pointer (some ⟨r, 0, none⟩)) h') : efW N Γ .rng [.map (some m)] h K := by
  refine ⟨es, ck, hm, fun r hr => hK r _ hr ((Heap.le.refl h).new hr _) ?_⟩
  simp [IterB, fr, hr, Heap.set]
theorem i_rng0 {N : Num} {Γ : Ctx} {h : Heap} {K : Value → Heap → Prop}
    (hK : ∀ r h', h r = none → Heap.le h h' → fr h h' r = some (.mapIter none 0 #[] 0) → K (.pointer (some ⟨r, 0, none⟩)) h') : efW N Γ .rng [.map none] h K := by
  intro r hr
  exact hK r _ hr ((Heap.le.refl h).new hr _) (by simp [fr, hr, Heap.set])
theorem i_nxt0 {N : Num} {Γ : Ctx} {h : Heap} {r a b : Nat} {s : Array Nat} (hr : h r = some (.mapIter none a s b)) {K : Value → Heap → Prop} (hK : K (.tuple #[.bool false]) h) : efW N Γ .nxt [.pointer (some ⟨r, 0, none⟩)] h K :=
  .inl ⟨_, _, _, hr, hK⟩
omit [DecidableEq κ] in
theorem i_nxt {ek : κ → Value} {ev : ν → Value} {N : Num} {Γ : Ctx} {h : Heap} {r m : Nat} {kv : List (κ × ν)} {bs : List Nat} {ck : Nat} (hm : MapB ek ev h m kv bs ck) {dn : List Nat} (hr : IterB h r m ck dn) (hsub : ∀ b ∈ dn, b ∈ bs) {K : Value → Heap → Prop}
    (hend : (∀ b ∈ bs, b ∈ dn) → K (.tuple #[.bool false]) h)
    (hnext : ∀ (i b : Nat) k v, kv[i]? = some (k, v) → bs[i]? = some b → b ∉ dn → K (.tuple #[.bool true, ek k, ev v]) (h.set r (.mapIter (some m) ck (dn ++ [b]).toArray ck))) : efW N Γ .nxt [.pointer (some ⟨r, 0, none⟩)] h K := by
  obtain ⟨es, h1, h2, h3, h4, h5, h6⟩ := hm
  have hmem : ∀ e ∈ es.toList, ∃ (i : Nat) (k : κ) (v : ν) (b : Nat), kv[i]? = some (k, v) ∧ bs[i]? = some b ∧ e = mkE ek ev (k, v) b := by
    intro e he
    rw [h2] at he
    obtain ⟨i, hi, rfl⟩ := List.getElem_of_mem he
    simp only [List.length_zipWith] at hi
    have hi1 : i < kv.length := oM
    have hi2 : i < bs.length := oM
    exact ⟨i, kv[i].1, kv[i].2, bs[i], by simp [hi1], by simp [hi2], by simp⟩
  have hborn : ∀ e ∈ es.toList, e.born ∈ bs ∧ e.born < ck := by
    intro e he
    obtain ⟨i, k, v, b, a1, a2, rfl⟩ := hmem e he
    have := List.mem_of_getElem? a2
    exact ⟨this, h5 _ this⟩
  have hnew : (es.filter fun e => !dn.toArray.contains e.born).filter (fun e => decide (e.born ≥ ck)) = #[] := by
    apply Array.toList_inj.1
    simp only [Array.toList_filter]
    rw [List.filter_eq_nil_iff]
    intro e he
    have := (hborn e (List.mem_filter.1 he).1).2
    simp; omega
  have hold : ∀ e, e ∈ ((es.filter fun e => !dn.toArray.contains e.born).filter (fun e => decide (e.born < ck))) ↔ e ∈ es.toList ∧ e.born ∉ dn := by
    intro e
    simp only [Array.mem_filter, Array.mem_toList_iff]
    constructor
    · rintro ⟨⟨a, b⟩, _⟩; exact ⟨a, by simpa using b⟩
    · rintro ⟨a, b⟩; exact ⟨⟨a, by simpa using b⟩, by simpa using (hborn e (by simpa using a)).2⟩
  refine .inr ⟨m, ck, dn.toArray, ck, es, ck, hr, h1, ?_, ?_, ?_⟩
  · by_cases he : es.isEmpty
    · simp [he]
    · have : ∃ e, e ∈ es.toList := by
        cases hl : es.toList with
        | nil => exfalso; apply he; simp [Array.isEmpty, ← Array.length_toList, hl]
        | cons e l => exact ⟨e, by simp⟩
      obtain ⟨e, hme⟩ := this
      have hlt := (hborn e hme).2
      have : es.all (fun x => decide (x.born ≥ ck)) = false := by
        rw [← Array.all_toList, List.all_eq_false]
        exact ⟨e, hme, by simp; omega⟩
      simp [this]
  · unfold cands
    simp only [hnew]
    intro h0
    simp only [Array.size_append, Array.size_map] at h0
    split at h0
    · simp at h0
    · rename_i hne
      apply hne
      simpa using h0
  · intro c hc
    unfold cands at hc
    simp only [hnew] at hc
    cases c with
    | none =>
      apply hend
      simp only [Array.toList_append, List.mem_append] at hc
      rcases hc with hc | hc
      · split at hc
        · rename_i hemp
          intro b hb
          apply Classical.byContradiction
          intro hnb
          obtain ⟨i, hi, rfl⟩ := List.getElem_of_mem hb
          have hi1 : i < kv.length := oM
          have : mkE ek ev kv[i] bs[i] ∈ es.toList := by
            rw [h2]
            have hlen : i < (List.zipWith (mkE ek ev) kv bs).length := by simp; omega
            have e : (List.zipWith (mkE ek ev) kv bs)[i] = mkE ek ev kv[i] bs[i] := by simp
            rw [← e]; exact List.getElem_mem hlen
          have h7 := (hold _).2 ⟨this, by simpa [mkE] using hnb⟩
          simp only [Array.isEmpty_iff] at hemp
          rw [hemp] at h7
          simp at h7
        · simp at hc
      · simp at hc
    | some e =>
      simp only [Array.toList_append, List.mem_append] at hc
      rcases hc with hc | hc
      · split at hc <;> simp at hc
      · simp only [Array.append_empty, Array.toList_map, List.mem_map, Option.some.injEq, exists_eq_right, Array.mem_toList_iff] at hc
        obtain ⟨a1, a2⟩ := (hold e).1 hc
        obtain ⟨i, k, v, b, b1, b2, rfl⟩ := hmem e a1
        have := hnext i b k v b1 b2 a2
        simpa [mkE] using this
omit [DecidableEq κ] in
theorem i_ent {ek : κ → Value} {ev : ν → Value} {N : Num} {Γ : Ctx} {h : Heap} {r m : Nat} {kv : List (κ × ν)} {bs : List Nat} {ck : Nat} (hm : MapB ek ev h m kv bs ck) {dn : List Nat} {b : Nat} (hr : IterB h r m ck (dn ++ [b])) {i : Nat} {k : κ} {v : ν}
    (h1 : kv[i]? = some (k, v)) (h2 : bs[i]? = some b) {K : Value → Heap → Prop} (hK : K (.tuple #[ek k, ev v]) h) : efW N Γ .ent [.pointer (some ⟨r, 0, none⟩)] h K := by
  obtain ⟨es, a1, a2, a3, a4, a5, a6⟩ := hm
  have hfind : ∀ (kv : List (κ × ν)) (bs : List Nat) (i : Nat), bs.length = kv.length → bs.Nodup → kv[i]? = some (k, v) → bs[i]? = some b → (List.zipWith (mkE ek ev) kv bs).find? (fun e => e.born == b) = some (mkE ek ev (k, v) b) := by
    intro kv
    induction kv with
    | nil => intro bs i _ _ h; simp at h
    | cons p kr ih =>
      intro bs i hl hn hk hb
      cases bs with
      | nil => simp at hl
      | cons b' bs =>
        cases i with
        | zero => simp at hk hb; subst hk; subst hb; simp [mkE]
        | succ i =>
          simp only [List.getElem?_cons_succ] at hk hb
          simp only [List.nodup_cons] at hn
          have : b' ≠ b := by rintro rfl; exact hn.1 (List.mem_of_getElem? hb)
          simp only [List.zipWith_cons_cons, List.find?_cons]
          have hf : ((mkE ek ev p b').born == b) = false := by simp [mkE, this]
          rw [hf]
          exact ih bs i (by simpa using hl) hn.2 hk hb
  refine ⟨m, ck, (dn ++ [b]).toArray, ck, b, es, hr, by simp, a1, mkE ek ev (k, v) b, ?_, hK⟩
  rw [← Array.find?_toList, a2]
  exact hfind kv bs i a3 a4 h1 h2
end
end Go.Cw
namespace Go.Cw
open Go
def blkOf : Value → Option Nat
  | .slice (some a) _ _ => some a.block
  | _ => none
def SlB {α : Type} (enc : α → List Value) (sz : Nat) (g : Heap) (v : Value) (l : List α) : Prop :=
  ∃ a cap, v = .slice a l.length cap ∧ l.length ≤ cap ∧ cap ≤ maxLen ∧
    ((a = none ∧ l = [] ∧ cap = 0) ∨ ∃ b c t, a = some ⟨b, 0, none⟩ ∧ g b = some (.cells c t (0, 0)) ∧ c.size = cap * sz ∧ ∀ i, i < (l.flatMap enc).length → c[i]? = (l.flatMap enc)[i]?)
theorem SlB.own {α : Type} {enc : α → List Value} {sz : Nat} {g h0 : Heap} {v : Value} {l : List α} (hs : SlB enc sz g v l) (hl : Heap.le h0 g) (hb : ∀ b, blkOf v = some b → h0 b = none) : OwnS enc sz h0 g v l := by
  obtain ⟨a, cap, rfl, h1, h2, h3⟩ := hs
  refine ⟨hl, a, cap, rfl, h1, h2, h3.imp id ?_⟩
  rintro ⟨b, c, t, rfl, h4, h5, h6⟩
  exact ⟨b, c, t, rfl, hb b rfl, h4, h5, h6⟩
theorem OwnS.slb {α : Type} {enc : α → List Value} {sz : Nat} {g h0 : Heap} {v : Value} {l : List α} (hs : OwnS enc sz h0 g v l) : SlB enc sz g v l ∧ ∀ b, blkOf v = some b → h0 b = none := by
  obtain ⟨_, a, cap, rfl, h1, h2, h3⟩ := hs
  refine ⟨⟨a, cap, rfl, h1, h2, h3.imp id ?_⟩, ?_⟩
  · rintro ⟨b, c, t, rfl, _, h4, h5, h6⟩
    exact ⟨b, c, t, rfl, h4, h5, h6⟩
  · intro b hb
    rcases h3 with ⟨rfl, _⟩ | ⟨b', c, t, rfl, h3, _⟩
    · simp [blkOf] at hb
    · simp only [blkOf, Option.some.injEq] at hb; subst hb; exact h3
theorem SlB.nil {α : Type} {enc : α → List Value} {sz : Nat} {g : Heap} : SlB enc sz g (.slice none 0 0) ([] : List α) := ⟨none, 0, rfl, by simp, by simp [maxLen], .inl ⟨rfl, rfl, rfl⟩⟩
theorem SlB.mem {α : Type} {enc : α → List Value} {sz : Nat} {g : Heap} {v : Value} {l : List α} (hs : SlB enc sz g v l) {b : Nat} (hb : blkOf v = some b) : g b ≠ none := by
  obtain ⟨a, cap, rfl, h1, h2, h3⟩ := hs
  rcases h3 with ⟨rfl, _⟩ | ⟨b', c, t, rfl, h3, _⟩
  · simp [blkOf] at hb
  · simp only [blkOf, Option.some.injEq] at hb; subst hb; rw [h3]; simp
theorem SlB.same {α : Type} {enc : α → List Value} {sz : Nat} {g g' : Heap} {v : Value} {l : List α} (hs : SlB enc sz g v l) (hb : ∀ b, blkOf v = some b → g' b = g b) : SlB enc sz g' v l := by
  obtain ⟨a, cap, rfl, h1, h2, h3⟩ := hs
  refine ⟨a, cap, rfl, h1, h2, h3.imp id ?_⟩
  rintro ⟨b, c, t, rfl, h4, h5, h6⟩
  exact ⟨b, c, t, rfl, by rw [hb b rfl]; exact h4, h5, h6⟩
theorem SlB.le {α : Type} {enc : α → List Value} {sz : Nat} {g g' : Heap} {v : Value} {l : List α} (hs : SlB enc sz g v l) (hl : Heap.le g g') : SlB enc sz g' v l := by
  refine hs.same fun b hb => ?_
  cases hg : g b with
  | none => exact absurd hg (hs.mem hb)
  | some o => exact hl b o hg
theorem SlB.sl {α : Type} {enc : α → List Value} {sz : Nat} (he : ∀ x, (enc x).length = sz) {g : Heap} {v : Value} {l : List α} (hs : SlB enc sz g v l) : Sl enc g v l := by
  have := hs.own (h0 := fun _ => none) (fun b o h => by cases h) (fun _ _ => rfl)
  exact this.sl he
theorem SlB.one {α : Type} {enc : α → List Value} {sz : Nat} {g : Heap} {v : Value} {l : List α} (hs : SlB enc sz g v l) : Cw.one v = true ∧ v.cells = #[v] := by
  obtain ⟨a, cap, rfl, _⟩ := hs; exact ⟨rfl, rfl⟩
theorem i_bslB {α : Type} (enc : α → List Value) (sz : Nat) (he : ∀ x, (enc x).length = sz) (l : List α) {N : Num} {Γ : Ctx} {h : Heap} {t n : Nat} {c : Array Value} {K : Value → Heap → Prop} (hc : c.toList = l.flatMap enc) (hn : n = l.length) (hm : l.length ≤ maxLen)
    (hx : ∀ v b h', Heap.le h h' → h b = none → blkOf v = some b → SlB enc sz (fr h h') v l → K v h') : efW N Γ (.bsl t n) [.agg c] h K := by
  subst hn
  intro b hb
  refine hx _ b _ ((Heap.le.refl h).new hb _) hb rfl ⟨_, _, rfl, Nat.le_refl _, hm, .inr ⟨b, c, N.tid t, rfl, by simp [fr, hb, Heap.set], ?_, ?_⟩⟩
  · rw [← Array.length_toList, hc, flat_len he]
  · intro i hi
    rw [← Array.getElem?_toList, hc]
theorem i_appB {α : Type} {enc : α → List Value} {sz : Nat} (he : ∀ x, (enc x).length = sz) {N : Num} {Γ : Ctx} {g h : Heap} {t bytes : Nat} {v x : Value} {l l' : List α} (hone : ∀ x ∈ l', (enc x).all Cw.one = true)
    (hs : SlB enc sz g v l) (hg : Heap.le g h) (hx : Sl enc h x l') (hlen : (l.length + l'.length) * (bytes + 1) ≤ 1073741824) {K : Value → Heap → Prop}
    (hK : ∀ v' h' g', SlB enc sz g' v' (l ++ l') → Step g h g' h' → (∀ b, blkOf v ≠ some b → blkOf v' ≠ some b → g' b = g b) → (∀ b, blkOf v' = some b → blkOf v = some b ∨ h b = none) →
      (∀ b o, h b = some o → blkOf v ≠ some b → h' b = some o) → K v' h') : efW N Γ (.app t sz bytes) [v, x] h K := by
  have hown : OwnS enc sz (fun b => if blkOf v = some b then none else h b) h v l := by
    refine (hs.le hg).own ?_ ?_
    · intro b o hb; dsimp only at hb; split at hb
      · cases hb
      · exact hb
    · intro b hb; simp [hb]
  refine i_app1 he hone hown hx hlen fun v' h' ho => ?_
  obtain ⟨h1, h2⟩ := ho.slb
  have hle := ho.1
  refine hK v' h' (fun b => if blkOf v' = some b then h' b else if blkOf v = some b then none else g b) ?_ ⟨?_, ?_, ?_⟩ ?_ ?_ ?_
  · exact h1.same fun b hb => by simp [hb]
  · intro b o hb
    dsimp only at hb
    split at hb
    · exact hb
    · split at hb
      · cases hb
      · rename_i hv; exact hle b o (by simp [hv]; exact hg b o hb)
  · intro b o hb hgb
    have hv : blkOf v ≠ some b := fun e => hs.mem e hgb
    exact hle b o (by simp [hv]; exact hb)
  · intro b hb hgb
    have hv : blkOf v ≠ some b := fun e => hs.mem e hgb
    have hv' : blkOf v' ≠ some b := by
      intro e
      have := h2 b e
      simp only [hv, if_false] at this
      exact hb this
    simp [hv, hv', hgb]
  · intro b hv hv'; simp [hv, hv']
  · intro b hb
    have := h2 b hb
    by_cases e : blkOf v = some b
    · exact .inl e
    · simp only [e, if_false] at this; exact .inr this
  · intro b o hb hv
    exact hle b o (by simp [hv]; exact hb)
end Go.Cw
namespace Go.Cw
open Go
structure Si where
  place : Int
  strength : Int
  time : Int
  tag : List UInt8
  deriving DecidableEq, Inhabited
def Si.enc (s : Si) : List Value := [.int .i64 s.place, .int .i64 s.strength, .int .i64 s.time, .string (str s.tag)]
theorem Si.enc_len (s : Si) : s.enc.length = 4 := rfl
theorem Si.enc_one (s : Si) : s.enc.all one = true := rfl
def Si.bad (s : Si) : Prop := s.place < 0 ∨ 7 < s.place ∨ s.strength < 0 ∨ 255 < s.strength
instance Si.decBad (s : Si) : Decidable s.bad := by unfold Si.bad; infer_instance
def seen (l : List Si) (tag : List UInt8) (p : Int) : Prop := ∃ s ∈ l, s.tag = tag ∧ s.place = p
instance (l : List Si) (tag : List UInt8) (p : Int) : Decidable (seen l tag p) := by unfold seen; infer_instance
def sumS (l : List Si) (tag : List UInt8) (p : Int) : Int := ((l.filter fun s => decide (s.tag = tag ∧ s.place = p)).map (·.strength)).sum
def toldIn (l : List Si) (tag : List UInt8) : Prop := ∃ s ∈ l, s.tag = tag
instance (l : List Si) (tag : List UInt8) : Decidable (toldIn l tag) := by unfold toldIn; infer_instance
abbrev Ep := List (List UInt8 × List (Int × Int))
def addS (E : Ep) (s : Si) : Ep := upd E s.tag (upd ((look E s.tag).getD []) s.place ((look ((look E s.tag).getD []) s.place).getD 0 + s.strength))
def tellE (l : List Si) : Ep := l.foldl addS []
theorem tellE_snoc (l : List Si) (s : Si) : tellE (l ++ [s]) = addS (tellE l) s := by simp [tellE]
theorem snoc_ind {α : Type} {P : List α → Prop} (h0 : P []) (hs : ∀ l a, P l → P (l ++ [a])) (l : List α) : P l := by
  have : ∀ n (l : List α), l.length = n → P l := by
    intro n
    induction n with
    | zero => intro l h; rw [List.eq_nil_of_length_eq_zero h]; exact h0
    | succ n ih =>
      intro l h
      rcases List.eq_nil_or_concat l with rfl | ⟨l', a, rfl⟩
      · exact h0
      · rw [List.concat_eq_append] at h ⊢; exact hs l' a (ih l' (by simpa using h))
  exact this _ l rfl
theorem seen_snoc (l : List Si) (s : Si) (tag : List UInt8) (p : Int) : seen (l ++ [s]) tag p ↔ seen l tag p ∨ (s.tag = tag ∧ s.place = p) := by
  simp only [seen, List.mem_append, List.mem_singleton]
  constructor
  · rintro ⟨x, hx | rfl, h⟩
    · exact .inl ⟨x, hx, h⟩
    · exact .inr h
  · rintro (⟨x, hx, h⟩ | h)
    · exact ⟨x, .inl hx, h⟩
    · exact ⟨s, .inr rfl, h⟩
theorem toldIn_snoc (l : List Si) (s : Si) (tag : List UInt8) : toldIn (l ++ [s]) tag ↔ toldIn l tag ∨ s.tag = tag := by
  simp only [toldIn, List.mem_append, List.mem_singleton]
  constructor
  · rintro ⟨x, hx | rfl, h⟩
    · exact .inl ⟨x, hx, h⟩
    · exact .inr h
  · rintro (⟨x, hx, h⟩ | h)
    · exact ⟨x, .inl hx, h⟩
    · exact ⟨s, .inr rfl, h⟩
theorem sumS_snoc (l : List Si) (s : Si) (tag : List UInt8) (p : Int) : sumS (l ++ [s]) tag p = sumS l tag p + (if s.tag = tag ∧ s.place = p then s.strength else 0) := by
  unfold sumS
  rw [List.filter_append, List.map_append, List.sum_append]
  by_cases h : s.tag = tag ∧ s.place = p <;> simp [h]
theorem sumS_zero {l : List Si} {tag : List UInt8} {p : Int} (h : ¬ seen l tag p) : sumS l tag p = 0 := by
  unfold sumS
  have : l.filter (fun s => decide (s.tag = tag ∧ s.place = p)) = [] := by
    rw [List.filter_eq_nil_iff]
    intro s hs hd
    exact h ⟨s, hs, by simpa using hd⟩
  rw [this]; rfl
theorem tellE_spec (l : List Si) : (∀ tag, look (tellE l) tag = none ↔ ¬ toldIn l tag) ∧ ((tellE l).map (·.1)).Nodup ∧
    ∀ tag pl, look (tellE l) tag = some pl → (pl.map (·.1)).Nodup ∧ ∀ p, look pl p = if seen l tag p then some (sumS l tag p) else none := by
  induction l using snoc_ind with
  | h0 =>
    refine ⟨fun tag => ?_, by simp [tellE], fun tag pl h => by simp [tellE, look_nil] at h⟩
    simp [tellE, look_nil, toldIn]
  | hs l s ih =>
    obtain ⟨i1, i2, i3⟩ := ih
    rw [tellE_snoc]
    refine ⟨fun tag => ?_, upd_nodup i2 _ _, fun tag pl h => ?_⟩
    · rw [addS, look_upd, toldIn_snoc]
      by_cases e : tag = s.tag
      · rw [if_pos e]; simp [e]
      · rw [if_neg e, i1 tag]
        have : ¬ s.tag = tag := fun h => e h.symm
        simp [this]
    · rw [addS, look_upd] at h
      by_cases e : tag = s.tag
      · rw [if_pos e] at h
        cases h
        have hpl : (((look (tellE l) s.tag).getD []).map (·.1)).Nodup ∧ ∀ p, look ((look (tellE l) s.tag).getD []) p = if seen l s.tag p then some (sumS l s.tag p) else none := by
          cases hh : look (tellE l) s.tag with
          | none =>
            have h1 := (i1 s.tag).1 hh
            refine ⟨by simp, fun p => ?_⟩
            have : ¬ seen l s.tag p := by rintro ⟨x, hx, h2, _⟩; exact h1 ⟨x, hx, h2⟩
            simp [this, look_nil]
          | some pl => exact i3 s.tag pl hh
        subst e
        refine ⟨upd_nodup hpl.1 _ _, fun p => ?_⟩
        rw [look_upd]
        by_cases e2 : p = s.place
        · subst e2
          have h1 : seen (l ++ [s]) s.tag s.place := (seen_snoc ..).2 (.inr ⟨rfl, rfl⟩)
          rw [if_pos rfl, if_pos h1, sumS_snoc, if_pos ⟨rfl, rfl⟩, hpl.2 s.place]
          by_cases h2 : seen l s.tag s.place
          · rw [if_pos h2]; rfl
          · rw [if_neg h2, sumS_zero h2]; rfl
        · have h1 : seen (l ++ [s]) s.tag p ↔ seen l s.tag p := by
            rw [seen_snoc]; constructor
            · rintro (h | ⟨_, h⟩)
              · exact h
              · exact absurd h.symm e2
            · exact .inl
          rw [if_neg e2, sumS_snoc, if_neg (show ¬ (s.tag = s.tag ∧ s.place = p) from fun h => e2 h.2.symm), hpl.2 p]
          by_cases h2 : seen l s.tag p
          · rw [if_pos h2, if_pos (h1.2 h2)]; simp
          · rw [if_neg h2, if_neg (fun h => h2 (h1.1 h))]
      · rw [if_neg e] at h
        obtain ⟨a, b⟩ := i3 tag pl h
        refine ⟨a, fun p => ?_⟩
        have hne : ¬ (s.tag = tag) := fun h => e h.symm
        have h1 : seen (l ++ [s]) tag p ↔ seen l tag p := by
          rw [seen_snoc]; constructor
          · rintro (h | ⟨h, _⟩)
            · exact h
            · exact absurd h hne
          · exact .inl
        rw [b p, sumS_snoc, if_neg (show ¬ (s.tag = tag ∧ s.place = p) from fun h => hne h.1)]
        by_cases h2 : seen l tag p
        · rw [if_pos h2, if_pos (h1.2 h2)]; simp
        · rw [if_neg h2, if_neg (fun h => h2 (h1.1 h))]
theorem sumS_bound {l : List Si} (hb : ∀ s ∈ l, ¬ s.bad) (tag : List UInt8) (p : Int) : 0 ≤ sumS l tag p ∧ sumS l tag p ≤ 255 * l.length := by
  induction l using snoc_ind with
  | h0 => simp [sumS]
  | hs l s ih =>
    have h1 := ih fun x hx => hb x (by simp [hx])
    have h2 := hb s (by simp)
    simp only [Si.bad] at h2
    rw [sumS_snoc]
    simp only [List.length_append, List.length_cons, List.length_nil]
    split <;> omega
theorem seen_place {l : List Si} (hb : ∀ s ∈ l, ¬ s.bad) {tag : List UInt8} {p : Int} (h : seen l tag p) : 0 ≤ p ∧ p ≤ 7 := by
  obtain ⟨s, hs, _, rfl⟩ := h
  have := hb s hs
  simp only [Si.bad] at this
  omega
def cntE (W : List (List Si)) (tag : List UInt8) (p : Int) : Nat := (W.filter fun l => decide (seen l tag p)).length
def strE (W : List (List Si)) (tag : List UInt8) (p : Int) : Int := (W.map fun l => sumS l tag p).sum
def bestTo (need : Nat) (cnt : Int → Nat) (st : Int → Int) : Nat → Int
  | 0 => -1
  | p + 1 => if cnt p < need then bestTo need cnt st p else if bestTo need cnt st p < 0 ∨ cnt (bestTo need cnt st p) < cnt p ∨ (cnt p = cnt (bestTo need cnt st p) ∧ st (bestTo need cnt st p) < st p) then p else bestTo need cnt st p
def atW (need : Nat) (W : List (List Si)) (tag : List UInt8) : Int := bestTo need (cntE W tag) (strE W tag) 8
def atE (window need : Nat) (EL : List (List Si)) (tag : List UInt8) : Int := atW need (EL.drop (EL.length - window)) tag
theorem bestTo_range (need : Nat) (cnt : Int → Nat) (st : Int → Int) : ∀ n, -1 ≤ bestTo need cnt st n ∧ bestTo need cnt st n < n := by
  intro n
  induction n with
  | zero => simp [bestTo]
  | succ n ih => simp only [bestTo]; split <;> (try split) <;> omega
theorem cntE_snoc (W : List (List Si)) (l : List Si) (tag : List UInt8) (p : Int) : cntE (W ++ [l]) tag p = cntE W tag p + if seen l tag p then 1 else 0 := by
  unfold cntE; rw [List.filter_append, List.length_append]; by_cases h : seen l tag p <;> simp [h]
theorem strE_snoc (W : List (List Si)) (l : List Si) (tag : List UInt8) (p : Int) : strE (W ++ [l]) tag p = strE W tag p + sumS l tag p := by
  unfold strE; simp
theorem cntE_le (W : List (List Si)) (tag : List UInt8) (p : Int) : cntE W tag p ≤ W.length := List.length_filter_le _ _
theorem strE_bound {W : List (List Si)} (hb : ∀ l ∈ W, (∀ s ∈ l, ¬ s.bad) ∧ l.length ≤ 1000000) (tag : List UInt8) (p : Int) : 0 ≤ strE W tag p ∧ strE W tag p ≤ 255000000 * W.length := by
  induction W using snoc_ind with
  | h0 => simp [strE]
  | hs W l ih =>
    have h1 := ih fun x hx => hb x (by simp [hx])
    obtain ⟨h2, h3⟩ := hb l (by simp)
    have h4 := sumS_bound h2 tag p
    rw [strE_snoc]
    simp only [List.length_append, List.length_cons, List.length_nil]
    omega
end Go.Cw
namespace Go.Cw
open Go
def mapV (b : Nat) : Value := .map (some b)
def encM (b : Nat) : List Value := [mapV b]
def EpR (g : Heap) (m : Nat) (E : Ep) : Prop := ∃ kv bs ck, MapB encKS mapV g m kv bs ck ∧ (∀ tag, look kv tag = none ↔ look E tag = none) ∧
  ∀ tag b, look kv tag = some b → ∃ pl bs ck, look E tag = some pl ∧ MapB encKI encKI g b pl bs ck
theorem EpR.le {g h : Heap} {m : Nat} {E : Ep} (he : EpR g m E) (hl : Heap.le g h) : EpR h m E := by
  obtain ⟨kv, bs, ck, h1, h2, h3⟩ := he
  exact ⟨kv, bs, ck, h1.le hl, h2, fun tag b hb => let ⟨pl, bs, ck, a, c⟩ := h3 tag b hb; ⟨pl, bs, ck, a, c.le hl⟩⟩
structure TrR (h : Heap) (a : Addr) (window need : Nat) (EL : List (List Si)) : Prop where
  ex : ∃ ev wv ems, objAt h a [.int .i64 window, .int .i64 need, ev, wv] ∧ Sl encM h ev ems ∧ ems.length = EL.length ∧ ∀ i, i < EL.length → EpR h (ems.getD i 0) (tellE (EL.getD i []))
structure TrOk (window need : Nat) (EL : List (List Si)) : Prop where
  w : 1 ≤ window ∧ window ≤ 8
  n : 1 ≤ need ∧ need ≤ window
  len : EL.length ≤ 100000
  ok : ∀ l ∈ EL, (∀ s ∈ l, ¬ s.bad) ∧ l.length ≤ 1000000
theorem Sl.lsl {α : Type} {enc : α → List Value} {sz : Nat} (he : ∀ x, (enc x).length = sz) {h : Heap} {v : Value} {l : List α} (hs : Sl enc h v l) {lo hi : Nat} (h1 : lo ≤ hi) (h2 : hi ≤ l.length) :
    ∃ v', (∀ k k', o3V (.lsl sz) (.v v) (.v (.int k lo)) (.v (.int k' hi)) = some (.v v')) ∧ Sl enc h v' ((l.take hi).drop lo) := by
  obtain ⟨a, cap, rfl, hcap, hr⟩ := hs
  refine ⟨.slice (if cap = lo then a else a.map (·.add (lo * sz))) (hi - lo) (cap - lo), ?_, ?_⟩
  · intro k k'
    simp only [o3V]
    rw [if_pos ⟨oM, oM, oM⟩]
    simp
  · have hlen : ((l.take hi).drop lo).length = hi - lo := by rw [List.length_drop, List.length_take]; omega
    refine ⟨_, cap - lo, by rw [hlen], by rw [hlen]; omega, ?_⟩
    by_cases hz : hi = lo
    · exact .inl (List.eq_nil_of_length_eq_zero oM)
    · have hne : l ≠ [] := by intro e; subst e; simp at h2; omega
      obtain ⟨g, rfl, hrow⟩ := hr.resolve_left hne
      have hc : cap ≠ lo := oM
      refine .inr ⟨g.add (lo * sz), by simp [hc], ?_⟩
      obtain ⟨r1, c, t, fz, r2, r3, r4⟩ := hrow
      have e1 : (l.take hi).drop lo = (l.drop lo).take (hi - lo) := by rw [List.drop_take]
      have hsplit : l.flatMap enc = (l.take lo).flatMap enc ++ (((l.drop lo).take (hi - lo)).flatMap enc ++ ((l.drop lo).drop (hi - lo)).flatMap enc) := by
        rw [← List.flatMap_append, ← List.flatMap_append, List.take_append_drop, List.take_append_drop]
      have hl1 : ((l.take lo).flatMap enc).length = lo * sz := by rw [flat_len he, List.length_take]; congr 1; omega
      have hl2 := congrArg List.length hsplit
      simp only [List.length_append] at hl2
      rw [e1, addr_add' g r1]
      refine ⟨rfl, c, t, fz, r2, dM, fun i hi' => ?_⟩
      have := r4 (lo * sz + i) oM
      dsimp only
      rw [show g.off + lo * sz + i = g.off + (lo * sz + i) by omega, this, hsplit, List.getElem?_append_right oM, List.getElem?_append_left oM]
      congr 1; omega
def arr (f : Int → Int) : List Value := [.int .i64 (f 0), .int .i64 (f 1), .int .i64 (f 2), .int .i64 (f 3), .int .i64 (f 4), .int .i64 (f 5), .int .i64 (f 6), .int .i64 (f 7)]
theorem arr_get (f : Int → Int) {p : Nat} (h : p < 8) : (arr f)[p]? = some (.int .i64 (f p)) := by
  match p, h with
  | 0, _ | 1, _ | 2, _ | 3, _ | 4, _ | 5, _ | 6, _ | 7, _ => rfl
theorem arr_set (f : Int → Int) {p : Nat} (h : p < 8) (v : Int) : (arr f).take p ++ [.int .i64 v] ++ (arr f).drop (p + 1) = arr fun q => if q = p then v else f q := by
  match p, h with
  | 0, _ | 1, _ | 2, _ | 3, _ | 4, _ | 5, _ | 6, _ | 7, _ => simp [arr]
theorem arr_len (f : Int → Int) : (arr f).length = 8 := rfl
theorem arr_congr {f f' : Int → Int} (h : ∀ p : Nat, p < 8 → f p = f' p) : arr f = arr f' := by
  have h0 : f 0 = f' 0 := h 0 oM
  have h1 : f 1 = f' 1 := h 1 oM
  have h2 : f 2 = f' 2 := h 2 oM
  have h3 : f 3 = f' 3 := h 3 oM
  have h4 : f 4 = f' 4 := h 4 oM
  have h5 : f 5 = f' 5 := h 5 oM
  have h6 : f 6 = f' 6 := h 6 oM
  have h7 : f 7 = f' 7 := h 7 oM
  simp only [arr, h0, h1, h2, h3, h4, h5, h6, h7]
theorem countP_lt {l : List Nat} {p q : Nat → Bool} (hpq : ∀ x, p x = true → q x = true) {b : Nat} (hb : b ∈ l) (h1 : q b = true) (h2 : p b = false) : l.countP p < l.countP q := by
  induction l with
  | nil => simp at hb
  | cons x l ih =>
    simp only [List.countP_cons]
    have hle : l.countP p ≤ l.countP q := List.countP_mono_left fun x _ h => hpq x h
    simp only [List.mem_cons] at hb
    rcases hb with rfl | hb
    · simp [h1, h2]; omega
    · have := ih hb
      have hx : (if p x = true then 1 else 0) ≤ (if q x = true then 1 else 0) := by
        by_cases hp : p x = true
        · rw [if_pos hp, if_pos (hpq x hp)]; exact Nat.le_refl _
        · rw [if_neg hp]; exact Nat.zero_le _
      omega
def todo (bs dn : List Nat) : Nat := bs.countP fun b => !dn.contains b
theorem todo_lt {bs dn : List Nat} {b : Nat} (h1 : b ∈ bs) (h2 : b ∉ dn) : todo bs (dn ++ [b]) < todo bs dn := by
  refine countP_lt (b := b) (fun x hx => ?_) h1 (by simpa using h2) (by simp)
  simp only [List.contains_eq_mem, List.mem_append, Bool.not_eq_true', decide_eq_false_iff_not, not_or] at hx ⊢
  exact hx.1
structure GoneI (h0 : Heap) (tag : List UInt8) (W : List (List Si)) (l : List Si) (pl : List (Int × Int)) (bs : List Nat) (m ck r bc bt : Nat) (dn : List Nat) (dl : List (Int × Int)) (h : Heap) : Prop where
  le : Heap.le h0 h
  it : IterB h r m ck dn
  sub : ∀ b ∈ dn, b ∈ bs
  mem : ∀ (i : Nat) p x b, pl[i]? = some (p, x) → bs[i]? = some b → (b ∈ dn ↔ (p, x) ∈ dl)
  dsub : ∀ e ∈ dl, e ∈ pl
  cnt : objAt h ⟨bc, 0, none⟩ (arr fun p => (cntE W tag p : Int) + if (look dl p).isSome then 1 else 0)
  str : objAt h ⟨bt, 0, none⟩ (arr fun p => strE W tag p + (look dl p).getD 0)
theorem look_snoc {kv : List (Int × Int)} {p x : Int} (hn : look kv p = none) (q : Int) : look (kv ++ [(p, x)]) q = if q = p then some x else look kv q := by
  induction kv with
  | nil => simp [look_cons, look_nil]
  | cons e r ih =>
    rw [look_cons] at hn
    split at hn
    · cases hn
    · rename_i hne
      rw [List.cons_append, look_cons, look_cons, ih hn]
      by_cases e1 : q = p
      · subst e1; rw [if_neg hne, if_pos rfl, if_pos rfl]
      · rw [if_neg e1, if_neg e1]
def S60 : Spec := fun args h K => ∃ a tag window need EL, args = [.pointer (some a), .string (Cw.str tag)] ∧ TrR h a window need EL ∧ TrOk window need EL ∧ ∀ h', Heap.le h h' → K (.int .i64 (atE window need EL tag)) h'
theorem F60_ok {N : Num} {Γ : Ctx} [GoodC Γ] : Sat S60 (SF N Γ F60) := by
  rintro _ h K ⟨a, tag, window, need, EL, rfl, ⟨ev, wv, ems, ha, hev, hel, hE⟩, hok, hK⟩
  obtain ⟨⟨w1, w2⟩, ⟨n1, n2⟩, hlen, hEok⟩ := hok
  refine i_fun rfl ?_
  simp only [F60, Ze, Nat.reduceSub, Nat.reduceAdd]
  refine sw0 ?_
  refine i_newO fun bc h1 hle1 hb1 hc1 => ?_
  refine sw0 ?_
  refine i_newO fun bt h2 hle2 hb2 ht2 => ?_
  have hle02 := hle1.trans hle2
  have Ra := (ha.le hle02).rules
  have A0 : h2.cell a = some (.int .i64 window) := Ra.2.1 (by simp)
  have A0' : h2.cell (a.add 0) = some (.int .i64 window) := Ra.1 0 (by simp)
  have A1 : h2.cell (a.add 1) = some (.int .i64 need) := Ra.1 1 (by simp)
  have A2 : h2.cell (a.add 2) = some ev := Ra.1 2 (by simp)
  have Rev := (hev.le hle02).rules1 mapV (fun _ => rfl) 0
  rw [hel] at Rev
  have hlo : max 0 (IntKind.i64.wrap ((EL.length : Int) - window)) = ((EL.length - window : Nat) : Int) := by
    rw [w64 oM oM]; omega
  obtain ⟨v12, e12, hs12⟩ := (hev.le hle02).lsl (sz := 1) (fun _ => rfl) (lo := EL.length - window) (hi := EL.length) (Nat.sub_le _ _) (Nat.le_of_eq hel.symm)
  have R12 := hs12.rules1 mapV (fun _ => rfl) 0
  have hW : ((ems.take EL.length).drop (EL.length - window)).length = (EL.drop (EL.length - window)).length := by simp only [List.length_drop, List.length_take]; omega
  rw [hW] at R12
  refine sw7 @A0 @A0' @A2 @Rev @hlo @e12 @R12 ?_
  obtain ⟨v12', e12', hs12'⟩ := hev.lsl (sz := 1) (fun _ => rfl) (lo := EL.length - window) (hi := EL.length) (Nat.sub_le _ _) (Nat.le_of_eq hel.symm)
  have e12e : v12 = v12' := by have h1 := e12 .i64 .i64; have h2 := e12' .i64 .i64; rw [h1] at h2; cases h2; rfl
  subst e12e
  have hbcn : bc ≠ bt := by
    obtain ⟨_, c, t, h3, _⟩ := objAt.le hc1 (fr_le h h1)
    rintro rfl; dsimp only at h3; rw [hb2] at h3; cases h3
  have hbt0 : h bt = none := le_none hle1 bt hb2
  have hwl : ∀ i, i < (EL.drop (EL.length - window)).length → EpR h (((ems.take EL.length).drop (EL.length - window)).getD i 0) (tellE ((EL.drop (EL.length - window)).getD i [])) ∧ (EL.drop (EL.length - window)).getD i [] ∈ EL := by
    intro i hi
    rw [List.length_drop] at hi
    have h1 := hE (EL.length - window + i) oM
    have e1 : ((ems.take EL.length).drop (EL.length - window)).getD i 0 = ems.getD (EL.length - window + i) 0 := by
      simp only [List.getD_eq_getElem?_getD, List.getElem?_drop]
      rw [List.getElem?_take_of_lt oM]
    have e2 : (EL.drop (EL.length - window)).getD i [] = EL.getD (EL.length - window + i) [] := by
      simp only [List.getD_eq_getElem?_getD, List.getElem?_drop]
    rw [e1, e2]
    exact ⟨h1, getD_mem [] oM⟩
  have hWlen : (EL.drop (EL.length - window)).length ≤ 8 := by rw [List.length_drop]; omega
  have hWok : ∀ l ∈ EL.drop (EL.length - window), (∀ s ∈ l, ¬ s.bad) ∧ l.length ≤ 1000000 := fun l hl => hEok l (List.mem_of_mem_drop hl)
  have hatE : atE window need EL tag = atW need (EL.drop (EL.length - window)) tag := rfl
  generalize hWW : EL.drop (EL.length - window) = W at *
  refine i_meet_blk (fun env h3 => Heap.le h h3 ∧ objAt h3 ⟨bc, 0, none⟩ (arr fun p => (cntE W tag p : Int)) ∧ objAt h3 ⟨bt, 0, none⟩ (arr (strE W tag)) ∧ env = [some (.pointer (some a)), some (.string (Cw.str tag)), none, some (.pointer (some ⟨bc, 0, none⟩)), some (.pointer (some ⟨bt, 0, none⟩)), none, none, none, none, none, none, none, none, none, none, none, none, none, none, none, none, none, none, none, none]) ?_ ?_
  rotate_left
  · refine i_loop (fun i : Nat => [some (.pointer (some a)), some (.string (Cw.str tag)), none, some (.pointer (some ⟨bc, 0, none⟩)), some (.pointer (some ⟨bt, 0, none⟩)), none, none, none, none, none, none, none, some v12, some (.int .i64 W.length), some (.int .i64 i), none, none, none, none, none, none, none, none, none, none])
      (fun i h3 => i ≤ W.length ∧ Heap.le h h3 ∧ objAt h3 ⟨bc, 0, none⟩ (arr fun p => (cntE (W.take i) tag p : Int)) ∧ objAt h3 ⟨bt, 0, none⟩ (arr (strE (W.take i) tag)))
      (fun i => W.length - i) 0 (by try simp only [Pf]; rfl) ⟨oM, hle02, objAt.le (objAt.le hc1 (fr_le h h1)) hle2, objAt.le ht2 (fr_le h1 h2)⟩ ?_
    rintro i h3 ⟨hi, hle3, hc3, ht3⟩
    have R3 := (hs12'.le hle3).rules1 mapV (fun _ => rfl) 0
    rw [hW] at R3
    refine sw1 @R3 ?_
    refine i_cond (fun c1 => ?_) (fun c1 => ?_)
    rotate_left
    · refine sw0 ?_
      have hie : i = W.length := oM
      subst hie
      rw [List.take_length] at hc3 ht3
      exact k_meet _ sE ⟨hle3, hc3, ht3, rfl⟩
    have hi2 : i < W.length := oM
    obtain ⟨hEp, hmem⟩ := hwl i hi2
    obtain ⟨lb, ll⟩ := hEok _ hmem
    obtain ⟨kv, kbs, kck, hkm, hk1, hk2⟩ := hEp
    have Rk := (hkm.le hle3).rules .str
    have htake : W.take (i + 1) = W.take i ++ [W.getD i []] := take_succ_d [] hi2
    have hspec := tellE_spec (W.getD i [])
    generalize hl : W.getD i [] = l at *
    have hnext : ∀ h4, Heap.le h h4 → objAt h4 ⟨bc, 0, none⟩ (arr fun p => (cntE (W.take i) tag p : Int) + if seen l tag p then 1 else 0) → objAt h4 ⟨bt, 0, none⟩ (arr fun p => strE (W.take i) tag p + if seen l tag p then sumS l tag p else 0) →
        objAt h4 ⟨bc, 0, none⟩ (arr fun p => (cntE (W.take (i + 1)) tag p : Int)) ∧ objAt h4 ⟨bt, 0, none⟩ (arr (strE (W.take (i + 1)) tag)) := by
      intro h4 _ h5 h6
      constructor
      · have : arr (fun p => (cntE (W.take (i + 1)) tag p : Int)) = arr (fun p => (cntE (W.take i) tag p : Int) + if seen l tag p then 1 else 0) := by
          apply arr_congr; intro p hp
          rw [htake, cntE_snoc]; split <;> simp
        rw [this]; exact h5
      · have : arr (strE (W.take (i + 1)) tag) = arr (fun p => strE (W.take i) tag p + if seen l tag p then sumS l tag p else 0) := by
          apply arr_congr; intro p hp
          rw [htake, strE_snoc]
          by_cases hs : seen l tag p
          · rw [if_pos hs]
          · rw [if_neg hs, sumS_zero hs]
        rw [this]; exact h6
    cases hlk : look kv tag with
    | none =>
      have hnt : ∀ p, ¬ seen l tag p := by
        rintro p ⟨s, hs, h1, _⟩
        exact ((hspec.1 tag).1 ((hk1 tag).1 hlk)) ⟨s, hs, h1⟩
      refine sw2 @R3 @mapV.eq_1 ?_
      have Rk2 := Rk.1 (.map none) tag
      rw [hlk] at Rk2
      simp only [encKS] at Rk2
      refine sw3 @R3 @mapV.eq_1 @Rk2 ?_
      refine i_rng0 fun r h4 hr hle4 hfr => ?_
      refine sw0 ?_
      refine i_loop (fun _ : Unit => [some (.pointer (some a)), some (.string (Cw.str tag)), none, some (.pointer (some ⟨bc, 0, none⟩)), some (.pointer (some ⟨bt, 0, none⟩)), none, none, none, none, none, none, none, some v12, some (.int .i64 W.length), some (.int .i64 i), none, some (.pointer (some ⟨r, 0, none⟩)), none, none, none, none, none, none, none, none]) (fun _ h5 => h5 = h4) (fun _ => 0) () sE rfl ?_
      rintro _ h5 rfl
      refine sw0 ?_
      refine i_nxt0 (fr_le _ _ _ _ hfr) ?_
      refine sw0 ?_
      obtain ⟨n1, n2⟩ := hnext h5 (hle3.trans hle4) (by simpa [hnt] using objAt.le hc3 hle4) (by simpa [hnt] using objAt.le ht3 hle4)
      exact k_loop (i + 1) oM sE ⟨oM, hle3.trans hle4, n1, n2⟩
    | some b =>
      obtain ⟨pl, bs, ck, hpl, hbm⟩ := hk2 tag b hlk
      obtain ⟨hpn, hplk⟩ := hspec.2.2 tag pl hpl
      have Rk2 := Rk.1 (.map none) tag
      rw [hlk] at Rk2
      simp only [encKS, mapV] at Rk2
      refine sw3 @R3 @mapV.eq_1 @Rk2 ?_
      obtain ⟨es, hes, hes2⟩ := hbm
      have hbm : MapB encKI encKI h b pl bs ck := ⟨es, hes, hes2⟩
      refine i_rng (hle3 _ _ hes) fun r h4 hr hle4 hit => ?_
      have hr0 : h r = none := le_none hle3 r hr
      have hle04 := hle3.trans hle4
      have hrc : r ≠ bc := by obtain ⟨_, c, t, h5, _⟩ := hc3; rintro rfl; dsimp only at h5; rw [hr] at h5; cases h5
      have hrt : r ≠ bt := by obtain ⟨_, c, t, h5, _⟩ := ht3; rintro rfl; dsimp only at h5; rw [hr] at h5; cases h5
      refine sw0 ?_
      refine i_loop (fun _ : List Nat × List (Int × Int) => [some (.pointer (some a)), some (.string (Cw.str tag)), none, some (.pointer (some ⟨bc, 0, none⟩)), some (.pointer (some ⟨bt, 0, none⟩)), none, none, none, none, none, none, none, some v12, some (.int .i64 W.length), some (.int .i64 i), none, some (.pointer (some ⟨r, 0, none⟩)), none, none, none, none, none, none, none, none]) (fun s h5 => GoneI h tag (W.take i) l pl bs b ck r bc bt s.1 s.2 h5) (fun s => todo bs s.1) ([], []) sE
        ⟨hle04, fr_le _ _ _ _ hit, by simp, by intro i p x b _ _; simp, by simp, by simpa [look_nil] using objAt.le hc3 hle4, by simpa [look_nil] using objAt.le ht3 hle4⟩ ?_
      rintro ⟨dn, dl⟩ h5 ⟨g1, g2, g3, g4, g5, g6, g7⟩
      dsimp only at g1 g2 g3 g4 g5 g6 g7
      have hbsl : bs.length = pl.length := hes2.2.1
      refine sw0 ?_
      refine i_nxt (hbm.le g1) g2 g3 ?_ ?_
      · intro hall
        have hlook : ∀ p, look dl p = look pl p := by
          intro p
          cases hp : look pl p with
          | some x =>
            have h1 := look_mem hp
            obtain ⟨j, hj, he⟩ := List.getElem_of_mem h1
            have h2 := (g4 j p x (bs[j]'oM) (by rw [List.getElem?_eq_getElem hj, he]) (by simp [hbsl, hj])).1 (hall _ (List.getElem_mem _))
            cases hd : look dl p with
            | none => exact absurd (List.mem_map.2 ⟨_, h2, rfl⟩) (look_none hd)
            | some y =>
              have h3 := g5 _ (look_mem hd)
              have h4 := look_of_mem hpn h3
              rw [hp] at h4; cases h4; rfl
          | none =>
            cases hd : look dl p with
            | none => rfl
            | some y =>
              have h4 := look_of_mem hpn (g5 _ (look_mem hd))
              rw [hp] at h4; cases h4
        refine sw0 ?_
        obtain ⟨m1, m2⟩ := hnext h5 g1 (by
          have : arr (fun p => (cntE (W.take i) tag p : Int) + if seen l tag p then 1 else 0) = arr (fun p => (cntE (W.take i) tag p : Int) + if (look dl p).isSome then 1 else 0) := by
            apply arr_congr; intro p _
            rw [hlook, hplk]; by_cases hs : seen l tag p <;> simp [hs]
          rw [this]; exact g6) (by
          have : arr (fun p => strE (W.take i) tag p + if seen l tag p then sumS l tag p else 0) = arr (fun p => strE (W.take i) tag p + (look dl p).getD 0) := by
            apply arr_congr; intro p _
            rw [hlook, hplk]; by_cases hs : seen l tag p <;> simp [hs]
          rw [this]; exact g7)
        exact k_loop (i + 1) oM sE ⟨oM, g1, m1, m2⟩
      · intro j b' p x hj hbj hnd
        have hpx : (p, x) ∈ pl := List.mem_of_getElem? hj
        have hpl2 := look_of_mem hpn hpx
        rw [hplk] at hpl2
        have hseen : seen l tag p := by
          by_cases hs : seen l tag p
          · exact hs
          · rw [if_neg hs] at hpl2; cases hpl2
        rw [if_pos hseen] at hpl2
        have hx : x = sumS l tag p := by cases hpl2; rfl
        obtain ⟨p0, p7⟩ := seen_place lb hseen
        obtain ⟨pn, rfl⟩ : ∃ pn : Nat, p = (pn : Int) := ⟨p.toNat, oM⟩
        have hpn8 : pn < 8 := oM
        have hxb := sumS_bound lb tag (pn : Int)
        have hdl : look dl (pn : Int) = none := by
          cases hd : look dl (pn : Int) with
          | none => rfl
          | some y =>
            have h3 := g5 _ (look_mem hd)
            have h4 := look_of_mem hpn h3
            rw [look_of_mem hpn hpx] at h4; cases h4
            exact absurd ((g4 j _ _ _ hj hbj).2 (look_mem hd)) hnd
        have hle5 : Heap.le h (h5.set r (.mapIter (some b) ck (dn ++ [b']).toArray ck)) := by
          intro y o hy
          have e : y ≠ r := by rintro rfl; rw [hr0] at hy; cases hy
          rw [Heap.set_ne e]; exact g1 y o hy
        have hc5 : objAt (h5.set r (.mapIter (some b) ck (dn ++ [b']).toArray ck)) ⟨bc, 0, none⟩ (arr fun p => (cntE (W.take i) tag p : Int) + if (look dl p).isSome then 1 else 0) := by
          obtain ⟨x1, c, t, x2, x3⟩ := g6; exact ⟨x1, c, t, by rw [Heap.set_ne (Ne.symm hrc)]; exact x2, x3⟩
        have ht5 : objAt (h5.set r (.mapIter (some b) ck (dn ++ [b']).toArray ck)) ⟨bt, 0, none⟩ (arr fun p => strE (W.take i) tag p + (look dl p).getD 0) := by
          obtain ⟨x1, c, t, x2, x3⟩ := g7; exact ⟨x1, c, t, by rw [Heap.set_ne (Ne.symm hrt)]; exact x2, x3⟩
        have hi5 : IterB (h5.set r (.mapIter (some b) ck (dn ++ [b']).toArray ck)) r b ck (dn ++ [b']) := Heap.set_eq
        generalize h5.set r (.mapIter (some b) ck (dn ++ [b']).toArray ck) = h6 at *
        refine sw0 ?_
        refine i_ent (hbm.le hle5) hi5 hj hbj ?_
        have Rc := hc5.rules.1 pn (by rw [arr_len]; exact hpn8)
        rw [arr_get _ hpn8, hdl] at Rc
        have Rt := ht5.rules.1 pn (by rw [arr_len]; exact hpn8)
        rw [arr_get _ hpn8, hdl] at Rt
        simp only [Option.isSome_none, Bool.false_eq_true, if_false, Int.add_zero, Option.getD_none] at Rc Rt
        have hcl := cntE_le (W.take i) tag (pn : Int)
        have hcl2 := List.length_take_le i W
        refine sw2 @encKI.eq_1 @Rc ?_
        refine i_st hc5 pn 1 rfl rfl oM (by rw [arr_len]; omega) fun o q1 q2 => ?_
        have hc7 := q1 h6 rfl
        simp only [P8] at hc7
        rw [arr_set _ hpn8] at hc7
        have ht7 : objAt (h6.set bc o) ⟨bt, 0, none⟩ (arr fun p => strE (W.take i) tag p + (look dl p).getD 0) := by
          obtain ⟨x1, c, t, x2, x3⟩ := ht5; exact ⟨x1, c, t, by rw [Heap.set_ne (Ne.symm hbcn)]; exact x2, x3⟩
        have hi7 : IterB (h6.set bc o) r b ck (dn ++ [b']) := by unfold IterB at hi5 ⊢; rw [Heap.set_ne hrc]; exact hi5
        have hle7 : Heap.le h (h6.set bc o) := by
          intro y oo hy
          have e : y ≠ bc := by rintro rfl; rw [hb1] at hy; cases hy
          rw [Heap.set_ne e]; exact hle5 y oo hy
        have Rt7 := ht7.rules.1 pn (by rw [arr_len]; exact hpn8)
        rw [arr_get _ hpn8, hdl] at Rt7
        simp only [Int.add_zero, Option.getD_none] at Rt7
        generalize h6.set bc o = h7 at *
        have hsb := strE_bound (W := W.take i) (fun l' hl' => hWok l' (List.mem_of_mem_take hl')) tag (pn : Int)
        have hw7 : IntKind.i64.wrap (strE (W.take i) tag (pn : Int) + x) = strE (W.take i) tag (pn : Int) + x := w64 oM oM
        refine sw2 @Rt7 @hw7 ?_
        refine i_st ht7 pn 1 rfl rfl oM (by rw [arr_len]; omega) fun o2 q3 q4 => ?_
        have ht8 := q3 h7 rfl
        simp only [P8] at ht8
        rw [arr_set _ hpn8] at ht8
        refine sw0 ?_
        refine k_loop (dn ++ [b'], dl ++ [((pn : Int), x)]) (todo_lt (List.mem_of_getElem? hbj) hnd) sE ⟨?_, ?_, ?_, ?_, ?_, ?_, ?_⟩
        · intro y oo hy
          have e : y ≠ bt := by rintro rfl; rw [hbt0] at hy; cases hy
          rw [Heap.set_ne e]; exact hle7 y oo hy
        · unfold IterB at hi7 ⊢; rw [Heap.set_ne hrt]; exact hi7
        · intro y hy; simp only [List.mem_append, List.mem_singleton] at hy
          rcases hy with hy | rfl
          · exact g3 y hy
          · exact List.mem_of_getElem? hbj
        · intro j2 p2 x2 b2 e1 e2
          simp only [List.mem_append, List.mem_singleton]
          rw [g4 j2 p2 x2 b2 e1 e2]
          have : b2 = b' ↔ (p2, x2) = ((pn : Int), x) := by
            constructor
            · rintro rfl
              have : j2 = j := ((List.getElem?_inj (List.getElem?_eq_some_iff.1 e2).1 hes2.2.2.1).1 (e2.trans hbj.symm))
              subst this; rw [e1] at hj; cases hj; rfl
            · intro e
              have h1 : (pl.map (·.1))[j2]? = some (pn : Int) := by rw [List.getElem?_map, e1]; cases e; rfl
              have h2 : (pl.map (·.1))[j]? = some (pn : Int) := by rw [List.getElem?_map, hj]; rfl
              have : j2 = j := ((List.getElem?_inj (List.getElem?_eq_some_iff.1 h1).1 hpn).1 (h1.trans h2.symm))
              subst this; rw [e2] at hbj; cases hbj; rfl
          rw [this]
        · intro e he; simp only [List.mem_append, List.mem_singleton] at he
          rcases he with he | rfl
          · exact g5 e he
          · exact hpx
        · have : arr (fun p => (cntE (W.take i) tag p : Int) + if (look (dl ++ [((pn : Int), x)]) p).isSome then 1 else 0) = arr (fun q => if q = (pn : Int) then (((cntE (W.take i) tag (pn : Int)) + 1 : Nat) : Int) else (cntE (W.take i) tag q : Int) + if (look dl q).isSome then 1 else 0) := by
            apply arr_congr; intro q _
            rw [look_snoc hdl]
            by_cases e : (q : Int) = pn
            · simp [e]
            · simp [e]
          rw [this]
          obtain ⟨x1, c, t, x2, x3⟩ := hc7; exact ⟨x1, c, t, by rw [Heap.set_ne hbcn]; exact x2, x3⟩
        · have : arr (fun p => strE (W.take i) tag p + (look (dl ++ [((pn : Int), x)]) p).getD 0) = arr (fun q => if q = (pn : Int) then strE (W.take i) tag (pn : Int) + x else strE (W.take i) tag q + (look dl q).getD 0) := by
            apply arr_congr; intro q _
            rw [look_snoc hdl]
            by_cases e : (q : Int) = pn
            · simp [e]
            · simp [e]
          rw [this]; exact ht8
  rintro env h3 ⟨hle3, hc3, ht3, rfl⟩
  have Ra3 := (ha.le hle3).rules
  have A1' : h3.cell (a.add 1) = some (.int .i64 need) := Ra3.1 1 (by simp)
  have Rc8 := hc3.rules.2.2
  rw [arr_len] at Rc8
  refine sw1 @Rc8 ?_
  refine i_loop (fun p : Nat => [some (.pointer (some a)), some (.string (Cw.str tag)), none, some (.pointer (some ⟨bc, 0, none⟩)), some (.pointer (some ⟨bt, 0, none⟩)), none, none, none, none, some (.int .i64 (bestTo need (cntE W tag) (strE W tag) p)), none, none, none, none, none, none, none, none, none, none, some (.agg (arr fun p => (cntE W tag p : Int)).toArray), some (.int .i64 p), none, none, none]) (fun p h4 => p ≤ 8 ∧ h4 = h3) (fun p => 8 - p) 0 (by try simp only [Pf]; simp [bestTo]) ⟨oM, rfl⟩ ?_
  rintro p h4 ⟨hp, rfl⟩
  refine sw0 ?_
  refine i_cond (fun c1 => ?_) (fun c1 => ?_)
  rotate_left
  · refine sw0 ?_
    have : p = 8 := oM
    subst this
    have := hK h4 hle3
    rw [hatE] at this
    exact this
  have hp8 : p < 8 := oM
  have hbr := bestTo_range need (cntE W tag) (strE W tag) p
  have hvx : (arr fun p => (cntE W tag p : Int)).toArray[p]? = some (.int .i64 (cntE W tag p)) := by
    rw [List.getElem?_toArray]; exact arr_get _ hp8
  refine sw2 @hvx @A1' ?_
  have hbe : bestTo need (cntE W tag) (strE W tag) (p + 1) = if cntE W tag p < need then bestTo need (cntE W tag) (strE W tag) p else if bestTo need (cntE W tag) (strE W tag) p < 0 ∨ cntE W tag (bestTo need (cntE W tag) (strE W tag) p) < cntE W tag p ∨ (cntE W tag p = cntE W tag (bestTo need (cntE W tag) (strE W tag) p) ∧ strE W tag (bestTo need (cntE W tag) (strE W tag) p) < strE W tag p) then p else bestTo need (cntE W tag) (strE W tag) p := rfl
  generalize hbg : bestTo need (cntE W tag) (strE W tag) p = bb at *
  refine i_cond (fun c2 => ?_) (fun c2 => ?_)
  · refine sw0 ?_
    refine k_loop (p + 1) oM ?_ ⟨oM, rfl⟩
    try simp only [Pf]; rw [hbe, if_pos oM]
  by_cases hb0 : bb < 0
  · refine sw1 @hb0 ?_
    refine k_loop (p + 1) oM ?_ ⟨oM, rfl⟩
    try simp only [Pf]; rw [hbe, if_neg oM, if_pos (.inl hb0)]
  obtain ⟨bn, rfl⟩ : ∃ bn : Nat, bb = (bn : Int) := ⟨bb.toNat, oM⟩
  have hbn : bn < 8 := oM
  have Rcb := hc3.rules.1 bn (by rw [arr_len]; exact hbn)
  rw [arr_get _ hbn] at Rcb
  have Rtb := ht3.rules.1 bn (by rw [arr_len]; exact hbn)
  rw [arr_get _ hbn] at Rtb
  have Rtp := ht3.rules.1 p (by rw [arr_len]; exact hp8)
  rw [arr_get _ hp8] at Rtp
  refine sw4 @hb0 @Rcb @Rtb @Rtp ?_
  refine i_cond (fun c3 => ?_) (fun c3 => ?_)
  · refine sw0 ?_
    refine k_loop (p + 1) oM ?_ ⟨oM, rfl⟩
    try simp only [Pf]; rw [hbe, if_neg oM, if_pos oM]
  · refine sw0 ?_
    refine k_loop (p + 1) oM ?_ ⟨oM, rfl⟩
    try simp only [Pf]; rw [hbe, if_neg oM, if_neg oM]
end Go.Cw
namespace Go.Cw
open Go
def EpW (g : Heap) (m : Nat) (E : Ep) : Prop := ∃ kv bs ck, MapB encKS mapV g m kv bs ck ∧ (∀ tag, look kv tag = none ↔ look E tag = none) ∧
  (∀ tag b, look kv tag = some b → b ≠ m ∧ ∃ pl bs ck, look E tag = some pl ∧ MapB encKI encKI g b pl bs ck) ∧ ∀ tag tag' b, look kv tag = some b → look kv tag' = some b → tag = tag'
theorem EpW.r {g : Heap} {m : Nat} {E : Ep} (h : EpW g m E) : EpR g m E := by
  obtain ⟨kv, bs, ck, h1, h2, h3, _⟩ := h
  exact ⟨kv, bs, ck, h1, h2, fun tag b hb => (h3 tag b hb).2⟩
theorem EpW.le {g g' : Heap} {m : Nat} {E : Ep} (h : EpW g m E) (hl : Heap.le g g') : EpW g' m E := by
  obtain ⟨kv, bs, ck, h1, h2, h3, h4⟩ := h
  exact ⟨kv, bs, ck, h1.le hl, h2, fun tag b hb => let ⟨n, pl, bs, ck, a, c⟩ := h3 tag b hb; ⟨n, pl, bs, ck, a, c.le hl⟩, h4⟩
theorem MapB.set_ne {κ ν : Type} {ek : κ → Value} {ev : ν → Value} {g : Heap} {m b : Nat} {o : Obj} {kv : List (κ × ν)} {bs : List Nat} {ck : Nat} (h : MapB ek ev g m kv bs ck) (e : m ≠ b) : MapB ek ev (g.set b o) m kv bs ck := by
  obtain ⟨es, h1, h2⟩ := h; exact ⟨es, by rw [Heap.set_ne e]; exact h1, h2⟩
theorem MapB.mem {κ ν : Type} {ek : κ → Value} {ev : ν → Value} {g : Heap} {m : Nat} {kv : List (κ × ν)} {bs : List Nat} {ck : Nat} (h : MapB ek ev g m kv bs ck) : g m ≠ none := by
  obtain ⟨es, h1, _⟩ := h; rw [h1]; simp
theorem objAt.set_ne {g : Heap} {a : Addr} {b : Nat} {o : Obj} {cs : List Value} (h : objAt g a cs) (e : a.block ≠ b) : objAt (g.set b o) a cs := by
  obtain ⟨x1, c, t, x2, x3⟩ := h; exact ⟨x1, c, t, by rw [Heap.set_ne e]; exact x2, x3⟩
theorem objAt.mem {g : Heap} {a : Addr} {cs : List Value} (h : objAt g a cs) : g a.block ≠ none := by
  obtain ⟨x1, c, t, x2, x3⟩ := h; rw [x2]; simp
theorem fr_set_new {h0 h : Heap} {b : Nat} {o : Obj} (hb : h0 b = none) : fr h0 (h.set b o) = (fr h0 h).set b o := by
  funext x
  simp only [fr, Heap.set]
  by_cases e : x = b
  · subst e; simp [hb]
  · simp [e]
theorem fr_fr {h0 h1 h2 : Heap} (hl : Heap.le h0 h1) : Heap.le (fr h1 h2) (fr h0 h2) := fr_anti (le_none hl)
theorem le_set_new {h0 h : Heap} {b : Nat} {o : Obj} (hl : Heap.le h0 h) (hb : h0 b = none) : Heap.le h0 (h.set b o) := by
  intro y oo hy
  have e : y ≠ b := by rintro rfl; rw [hb] at hy; cases hy
  rw [Heap.set_ne e]; exact hl y oo hy
theorem upd_same {κ ν : Type} [DecidableEq κ] {kv : List (κ × ν)} {k : κ} {v : ν} (h : look kv k = some v) : upd kv k v = kv := by
  induction kv with
  | nil => simp [look_nil] at h
  | cons p r ih =>
    rw [look_cons] at h
    simp only [upd]
    split
    · rename_i e; rw [if_pos e] at h; cases h; subst e; rfl
    · rename_i e; rw [if_neg e] at h; rw [ih h]
theorem upd_upd {κ ν : Type} [DecidableEq κ] (kv : List (κ × ν)) (k : κ) (v w : ν) : upd (upd kv k v) k w = upd kv k w := by
  induction kv with
  | nil => simp [upd]
  | cons p r ih =>
    simp only [upd]
    by_cases e : k = p.1
    · simp [e, upd]
    · simp [e, upd, ih]
theorem EpW.ins {g : Heap} {m b : Nat} {E : Ep} {o : Obj} {kv : List (List UInt8 × Nat)} {bs bs' : List Nat} {ck ck' : Nat} {tag : List UInt8} (hm : MapB encKS mapV g m kv bs ck) (hk : ∀ tag, look kv tag = none ↔ look E tag = none)
    (h3 : ∀ tag b, look kv tag = some b → b ≠ m ∧ ∃ pl bs ck, look E tag = some pl ∧ MapB encKI encKI g b pl bs ck) (h4 : ∀ tag tag' b, look kv tag = some b → look kv tag' = some b → tag = tag')
    (hb : MapB encKI encKI g b ([] : List (Int × Int)) [] 0) (hbm : b ≠ m) (hfresh : ∀ tag x, look kv tag = some x → x ≠ b) (hn : MapB encKS mapV (g.set m o) m (upd kv tag b) bs' ck') : EpW (g.set m o) m (upd E tag []) := by
  refine ⟨upd kv tag b, bs', ck', hn, fun t => ?_, fun t x hx => ?_, fun t t' x h1 h2 => ?_⟩
  · rw [look_upd, look_upd]; split <;> simp [hk]
  · rw [look_upd] at hx
    split at hx
    · rename_i e; cases hx; subst e
      exact ⟨hbm, [], [], 0, by rw [look_upd, if_pos rfl], hb.set_ne hbm⟩
    · rename_i e
      obtain ⟨n, pl, bs, ck, a, c⟩ := h3 t x hx
      exact ⟨n, pl, bs, ck, by rw [look_upd, if_neg e]; exact a, c.set_ne n⟩
  · rw [look_upd] at h1 h2
    split at h1 <;> split at h2
    · rename_i e1 e2; rw [e1, e2]
    · rename_i e1 e2; cases h1; exact absurd rfl (hfresh t' _ h2)
    · rename_i e1 e2; cases h2; exact absurd rfl (hfresh t _ h1)
    · exact h4 t t' x h1 h2
theorem EpW.put {g : Heap} {m b : Nat} {E : Ep} {o : Obj} {kv : List (List UInt8 × Nat)} {bs bs' : List Nat} {ck ck' : Nat} {tag : List UInt8} {pl : List (Int × Int)} (hm : MapB encKS mapV g m kv bs ck) (hk : ∀ tag, look kv tag = none ↔ look E tag = none)
    (h3 : ∀ tag b, look kv tag = some b → b ≠ m ∧ ∃ pl bs ck, look E tag = some pl ∧ MapB encKI encKI g b pl bs ck) (h4 : ∀ tag tag' b, look kv tag = some b → look kv tag' = some b → tag = tag')
    (hb : look kv tag = some b) (hn : MapB encKI encKI (g.set b o) b pl bs' ck') : EpW (g.set b o) m (upd E tag pl) := by
  have hbm := (h3 tag b hb).1
  refine ⟨kv, bs, ck, hm.set_ne (Ne.symm hbm), fun t => ?_, fun t x hx => ?_, h4⟩
  · rw [look_upd]
    split
    · rename_i e; subst e; rw [hb]; simp
    · exact hk t
  · obtain ⟨n, pl', bs2, ck2, a, c⟩ := h3 t x hx
    refine ⟨n, ?_⟩
    by_cases e : t = tag
    · subst e
      rw [hb] at hx; cases hx
      exact ⟨pl, bs', ck', by rw [look_upd, if_pos rfl], hn⟩
    · have hne : x ≠ b := by rintro rfl; exact e (h4 t tag x hx hb)
      exact ⟨pl', bs2, ck2, by rw [look_upd, if_neg e]; exact a, c.set_ne hne⟩
def toldE (EL : List (List Si)) (tag : List UInt8) : Prop := ∃ l ∈ EL, toldIn l tag
instance (EL : List (List Si)) (tag : List UInt8) : Decidable (toldE EL tag) := by unfold toldE; infer_instance
structure TrG (g : Heap) (b : Nat) (window need : Nat) (EL : List (List Si)) (W : List UInt8 → Option (List Int)) (hole : Option (List UInt8)) (ev : Value) (mw : Nat) (wkv : List (List UInt8 × Value)) (bs : List Nat) (ck : Nat) (gi : Heap) (ems : List Nat) : Prop where
  obj : objAt g ⟨b, 0, none⟩ [.int .i64 window, .int .i64 need, ev, .map (some mw)]
  evs : SlB encM 1 g ev ems
  wm : MapB encKS id g mw wkv bs ck
  wnone : ∀ tag, look wkv tag = none → W tag = none
  wsome : ∀ tag v, look wkv tag = some v → some tag ≠ hole → ∃ l x, W tag = some l ∧ SlB encI 1 g v l ∧ blkOf v = some x ∧ x ≠ b ∧ x ≠ mw ∧ blkOf ev ≠ some x ∧ gi x = none
  inj : ∀ tag tag' v v', look wkv tag = some v → look wkv tag' = some v' → some tag ≠ hole → some tag' ≠ hole → blkOf v = blkOf v' → tag = tag'
  d1 : b ≠ mw
  d2 : blkOf ev ≠ some b ∧ blkOf ev ≠ some mw
  elen : ems.length = EL.length
  eps : ∀ i, i < EL.length → EpR gi (ems.getD i 0) (tellE (EL.getD i []))
  gile : Heap.le gi g
  gib : gi b = none
  gim : gi mw = none
  gie : ∀ x, blkOf ev = some x → gi x = none
theorem TrG.le {g g' : Heap} {b window need : Nat} {EL : List (List Si)} {W : List UInt8 → Option (List Int)} {hole : Option (List UInt8)} {ev : Value} {mw : Nat} {wkv : List (List UInt8 × Value)} {bs : List Nat} {ck : Nat} {gi : Heap} {ems : List Nat}
    (h : TrG g b window need EL W hole ev mw wkv bs ck gi ems) (hl : Heap.le g g') : TrG g' b window need EL W hole ev mw wkv bs ck gi ems :=
  ⟨objAt.le h.obj hl, h.evs.le hl, h.wm.le hl, h.wnone, fun t v hv hh => let ⟨l, x, a1, a2, a3⟩ := h.wsome t v hv hh; ⟨l, x, a1, a2.le hl, a3⟩, h.inj, h.d1, h.d2, h.elen, h.eps, h.gile.trans hl, h.gib, h.gim, h.gie⟩
theorem TrG.r {g : Heap} {b window need : Nat} {EL : List (List Si)} {W : List UInt8 → Option (List Int)} {hole : Option (List UInt8)} {ev : Value} {mw : Nat} {wkv : List (List UInt8 × Value)} {bs : List Nat} {ck : Nat} {gi : Heap} {ems : List Nat}
    (h : TrG g b window need EL W hole ev mw wkv bs ck gi ems) {hh : Heap} (hl : Heap.le g hh) : TrR hh ⟨b, 0, none⟩ window need EL :=
  ⟨ev, _, ems, objAt.le h.obj hl, (SlB.sl (enc := encM) (sz := 1) (fun _ => rfl) h.evs).le hl, h.elen, fun i hi => (h.eps i hi).le (h.gile.trans hl)⟩
theorem TrG.put {g : Heap} {b window need : Nat} {EL : List (List Si)} {W : List UInt8 → Option (List Int)} {hole : Option (List UInt8)} {ev : Value} {mw : Nat} {wkv : List (List UInt8 × Value)} {bs bs' : List Nat} {ck ck' : Nat} {gi : Heap} {ems : List Nat}
    (h : TrG g b window need EL W hole ev mw wkv bs ck gi ems) {tag : List UInt8} (hh : hole = none ∨ hole = some tag) {v : Value} {l : List Int} {x : Nat} (hv : SlB encI 1 g v l) (hx : blkOf v = some x) (x1 : x ≠ b) (x2 : x ≠ mw) (x3 : blkOf ev ≠ some x) (x4 : gi x = none)
    (x5 : ∀ t w, look wkv t = some w → t ≠ tag → blkOf w ≠ some x) {o : Obj} (hm : MapB encKS id (g.set mw o) mw (upd wkv tag v) bs' ck') :
    TrG (g.set mw o) b window need EL (fun t => if t = tag then some l else W t) none ev mw (upd wkv tag v) bs' ck' gi ems := by
  have hne : ∀ t, t ≠ tag → some t ≠ hole := by
    intro t ht e
    rcases hh with h0 | h0
    · rw [h0] at e; cases e
    · rw [h0] at e; cases e; exact ht rfl
  refine ⟨h.obj.set_ne h.d1, h.evs.same (fun y hy => Heap.set_ne (fun e => h.d2.2 (by rw [← e]; exact hy))), hm, fun t ht => ?_, fun t w hw _ => ?_, fun t t' w w' h1 h2 _ _ h3 => ?_, h.d1, h.d2, h.elen, h.eps, ?_, h.gib, h.gim, h.gie⟩
  · rw [look_upd] at ht
    split at ht
    · cases ht
    · rename_i e; simp only [e, if_false]; exact h.wnone t ht
  · rw [look_upd] at hw
    split at hw
    · rename_i e; cases hw
      exact ⟨l, x, by simp [e], hv.same (fun y hy => Heap.set_ne (fun e => x2 (by rw [hx] at hy; cases hy; exact e))), hx, x1, x2, x3, x4⟩
    · rename_i e
      obtain ⟨l', y, a1, a2, a3, a4, a5, a6⟩ := h.wsome t w hw (hne t e)
      exact ⟨l', y, by simp only [e, if_false]; exact a1, a2.same (fun z hz => Heap.set_ne (fun e2 => a5 (by rw [a3] at hz; cases hz; exact e2))), a3, a4, a5, a6⟩
  · rw [look_upd] at h1 h2
    split at h1 <;> split at h2
    · rename_i e1 e2; rw [e1, e2]
    · rename_i e1 e2; cases h1; rw [hx] at h3; exact absurd h3.symm (x5 t' w' h2 e2)
    · rename_i e1 e2; cases h2; rw [hx] at h3; exact absurd h3 (x5 t w h1 e1)
    · rename_i e1 e2; exact h.inj t t' w w' h1 h2 (hne t e1) (hne t' e2) h3
  · intro y oo hy
    have e : y ≠ mw := by rintro rfl; rw [h.gim] at hy; cases hy
    rw [Heap.set_ne e]; exact h.gile y oo hy
end Go.Cw
namespace Go.Cw
open Go
def cell1 (r : Nat) (o : Obj) : Heap := fun x => if x = r then some o else none
theorem join_cell (r : Nat) (o : Obj) (G : Heap) : (∀ x, x ≠ r → join (cell1 r o) G x = G x) ∧ join (cell1 r o) G r = some o := by
  refine ⟨fun x hx => by simp [join, cell1, hx], by simp [join, cell1]⟩
theorem Step.cnew {g h G H H' : Heap} {r : Nat} {o : Obj} (a : Step g h G H) (hr : H r = none) (hle : Heap.le H H') (hi : H' r = some o) : Step g h (join (cell1 r o) G) H' ∧ G r = none := by
  refine ⟨⟨fun x y hx => ?_, fun x y h1 h2 => hle _ _ (a.frame x y h1 h2), fun x h1 h2 => ?_⟩, le_none a.le r hr⟩
  · by_cases e : x = r
    · subst e; rw [(join_cell _ o G).2] at hx; rw [hi]; exact hx
    · rw [(join_cell _ o G).1 x e] at hx; exact hle _ _ (a.le x y hx)
  · have e : x ≠ r := by
      rintro rfl
      cases hx : h x with
      | none => exact h1 hx
      | some y => have := a.frame x y hx h2; rw [hr] at this; cases this
    rw [(join_cell _ o G).1 x e]; exact a.fresh x h1 h2
theorem Step.cr {g h G H : Heap} {r : Nat} {o : Obj} (a : Step g h (join (cell1 r o) G) H) (hd : G r = none) : H r = some o ∧ Heap.le G H := by
  refine ⟨a.le _ _ (join_cell r o G).2, fun x y hx => ?_⟩
  have e : x ≠ r := by rintro rfl; rw [hd] at hx; cases hx
  exact a.le x y (by rw [(join_cell r o G).1 x e]; exact hx)
theorem Step.cdrop {g h G H : Heap} {r : Nat} {o : Obj} (a : Step g h (join (cell1 r o) G) H) (hd : G r = none) : Step g h G H := by
  refine ⟨(a.cr hd).2, a.frame, fun x h1 h2 => ?_⟩
  have := a.fresh x h1 h2
  by_cases e : x = r
  · rw [e]; exact hd
  · rwa [(join_cell r o G).1 x e] at this
theorem Step.cpart {g h G H G' H' : Heap} {r : Nat} {o : Obj} (a : Step g h (join (cell1 r o) G) H) (hd : G r = none) (s : Step G H G' H') : Step g h (join (cell1 r o) G') H' ∧ G' r = none := by
  have hc := (a.cr hd).1
  have hf : Heap.le (cell1 r o) H := by
    intro x y hx
    simp only [cell1] at hx
    split at hx
    · rename_i e; cases hx; subst e; exact hc
    · cases hx
  have hdj : disj (cell1 r o) G := by
    intro x hx
    simp only [cell1] at hx
    split at hx
    · rename_i e; subst e; exact hd
    · exact absurd rfl hx
  exact ⟨a.trans (s.part hf hdj), s.fresh r (by rw [hc]; simp) hd⟩
theorem Step.cset {g h G H : Heap} {r : Nat} {o : Obj} (a : Step g h (join (cell1 r o) G) H) (hd : G r = none) (o' : Obj) : Step g h (join (cell1 r o') G) (H.set r o') := by
  have := a.trans (Step.set a.le (b := r) (by rw [(join_cell r o G).2]; simp) o')
  have e : (join (cell1 r o) G).set r o' = join (cell1 r o') G := by
    funext x
    by_cases ex : x = r
    · subst ex; rw [Heap.set_eq, (join_cell _ o' G).2]
    · rw [Heap.set_ne ex, (join_cell r o G).1 x ex, (join_cell r o' G).1 x ex]
  rwa [e] at this
variable {g g' h : Heap} {b window need : Nat} {EL : List (List Si)} {W : List UInt8 → Option (List Int)} {hole : Option (List UInt8)} {ev : Value} {mw : Nat} {wkv : List (List UInt8 × Value)} {bs : List Nat} {ck : Nat} {gi gi' : Heap} {ems : List Nat}
theorem TrG.more (hT : TrG g b window need EL W hole ev mw wkv bs ck gi ems) (hl : Heap.le g g') (h1 : Heap.le gi gi') (h2 : Heap.le gi' g') (h3 : ∀ x, g x ≠ none → gi x = none → gi' x = none) :
    TrG g' b window need EL W hole ev mw wkv bs ck gi' ems := by
  have hT' := hT.le hl
  refine ⟨hT'.obj, hT'.evs, hT'.wm, hT.wnone, fun t v hv hh => ?_, hT.inj, hT.d1, hT.d2, hT.elen, fun i hi => (hT.eps i hi).le h1, h2, h3 _ hT.obj.mem hT.gib, h3 _ hT.wm.mem hT.gim, fun x hx => h3 _ (hT.evs.mem hx) (hT.gie x hx)⟩
  obtain ⟨l, x, a1, a2, a3, a4, a5, a6, a7⟩ := hT.wsome t v hv hh
  exact ⟨l, x, a1, a2.le hl, a3, a4, a5, a6, h3 _ (a2.mem a3) a7⟩
theorem TrG.appEv (hT : TrG g b window need EL W none ev mw wkv bs ck gi ems) (hg : Heap.le g h) {ev' : Value} {m : Nat} {l : List Si} (h1 : SlB encM 1 g' ev' (ems ++ [m]))
    (h2 : ∀ x, blkOf ev ≠ some x → blkOf ev' ≠ some x → g' x = g x) (h3 : ∀ x, blkOf ev' = some x → blkOf ev = some x ∨ h x = none) (hE : EpR gi m (tellE l)) {o : Obj}
    (ho : objAt (g'.set b o) ⟨b, 0, none⟩ [.int .i64 window, .int .i64 need, ev', .map (some mw)]) : TrG (g'.set b o) b window need (EL ++ [l]) W none ev' mw wkv bs ck gi (ems ++ [m]) := by
  have hh : ∀ x, g x ≠ none → blkOf ev ≠ some x → blkOf ev' ≠ some x := by
    intro x hx hn e
    rcases h3 x e with e2 | e2
    · exact hn e2
    · cases hgx : g x with
      | none => exact hx hgx
      | some o => rw [hg x o hgx] at e2; cases e2
  have hsm : ∀ x, g x ≠ none → blkOf ev ≠ some x → g' x = g x := fun x hx hn => h2 x hn (hh x hx hn)
  have hgb := hT.obj.mem
  have hgm := hT.wm.mem
  have hb' := hh b hgb hT.d2.1
  have hm' := hh mw hgm hT.d2.2
  refine ⟨ho, h1.same fun x hx => Heap.set_ne (fun e => hb' (by rw [← e]; exact hx)), ?_, hT.wnone, fun t v hv hh2 => ?_, hT.inj, hT.d1, ⟨hb', hm'⟩, by simp [hT.elen], fun i hi => ?_, ?_, hT.gib, hT.gim, fun x hx => ?_⟩
  · obtain ⟨es, q1, q2⟩ := hT.wm
    exact ⟨es, by rw [Heap.set_ne (Ne.symm hT.d1), hsm mw hgm hT.d2.2]; exact q1, q2⟩
  · obtain ⟨l', x, a1, a2, a3, a4, a5, a6, a7⟩ := hT.wsome t v hv hh2
    have hgx := a2.mem a3
    refine ⟨l', x, a1, a2.same fun y hy => ?_, a3, a4, a5, hh x hgx a6, a7⟩
    rw [a3] at hy; cases hy
    rw [Heap.set_ne a4]; exact hsm _ hgx a6
  · by_cases e : i < EL.length
    · have h5 : i < ems.length := by rw [hT.elen]; exact e
      have e1 : (ems ++ [m]).getD i 0 = ems.getD i 0 := by simp [List.getD_eq_getElem?_getD, List.getElem?_append_left h5]
      have e2 : (EL ++ [l]).getD i [] = EL.getD i [] := by simp [List.getD_eq_getElem?_getD, List.getElem?_append_left e]
      rw [e1, e2]; exact hT.eps i e
    · have : i = EL.length := by simp at hi; omega
      subst this
      have e1 : (ems ++ [m]).getD EL.length 0 = m := by simp [List.getD_eq_getElem?_getD, ← hT.elen]
      have e2 : (EL ++ [l]).getD EL.length [] = l := by simp [List.getD_eq_getElem?_getD]
      rw [e1, e2]; exact hE
  · intro x y hx
    have hne : x ≠ b := by rintro rfl; rw [hT.gib] at hx; cases hx
    have hgx := hT.gile x y hx
    have hev : blkOf ev ≠ some x := by intro e; rw [hT.gie x e] at hx; cases hx
    rw [Heap.set_ne hne, hsm x (by rw [hgx]; simp) hev]; exact hgx
  · rcases h3 x hx with e | e
    · exact hT.gie x e
    · cases hgx : gi x with
      | none => rfl
      | some o => rw [hg x o (hT.gile x o hgx)] at e; cases e
def HoleV (g : Heap) (b mw : Nat) (wkv : List (List UInt8 × Value)) (ev : Value) (gi : Heap) (tag : List UInt8) (v : Value) (l : List Int) : Prop :=
  SlB encI 1 g v l ∧ ∃ x, blkOf v = some x ∧ x ≠ b ∧ x ≠ mw ∧ blkOf ev ≠ some x ∧ gi x = none ∧ ∀ t w, look wkv t = some w → t ≠ tag → blkOf w ≠ some x
theorem HoleV.le {tag : List UInt8} {v : Value} {l : List Int} (h : HoleV g b mw wkv ev gi tag v l) (hl : Heap.le g g') : HoleV g' b mw wkv ev gi tag v l := ⟨h.1.le hl, h.2⟩
theorem TrG.hole_of (hT : TrG g b window need EL W none ev mw wkv bs ck gi ems) {tag : List UInt8} {v : Value} (hv : look wkv tag = some v) :
    TrG g b window need EL W (some tag) ev mw wkv bs ck gi ems ∧ ∃ l, W tag = some l ∧ HoleV g b mw wkv ev gi tag v l := by
  refine ⟨⟨hT.obj, hT.evs, hT.wm, hT.wnone, fun t v hv _ => hT.wsome t v hv (by simp), fun t t' v v' h1 h2 _ _ h3 => hT.inj t t' v v' h1 h2 (by simp) (by simp) h3, hT.d1, hT.d2, hT.elen, hT.eps, hT.gile, hT.gib, hT.gim, hT.gie⟩, ?_⟩
  obtain ⟨l, x, a1, a2, a3, a4, a5, a6, a7⟩ := hT.wsome tag v hv (by simp)
  exact ⟨l, a1, a2, x, a3, a4, a5, a6, a7, fun t w hw hne e => hne (hT.inj t tag w v hw hv (by simp) (by simp) (by rw [e, a3]))⟩
theorem HoleV.app {tag : List UInt8} {v v' : Value} {l l2 : List Int} (hT : TrG g b window need EL W (some tag) ev mw wkv bs ck gi ems) (hH : HoleV g b mw wkv ev gi tag v l) (hg : Heap.le g h) (hne : l2 ≠ [])
    (h1 : SlB encI 1 g' v' l2) (h2 : ∀ x, blkOf v ≠ some x → blkOf v' ≠ some x → g' x = g x) (h3 : ∀ x, blkOf v' = some x → blkOf v = some x ∨ h x = none) :
    TrG g' b window need EL W (some tag) ev mw wkv bs ck gi ems ∧ HoleV g' b mw wkv ev gi tag v' l2 := by
  obtain ⟨k1, x, k2, k3, k4, k5, k6, k7⟩ := hH
  have hno : ∀ y, h y = none → g y = none := le_none hg
  have hh : ∀ y, g y ≠ none → x ≠ y → blkOf v' ≠ some y := by
    intro y hy hn e
    rcases h3 y e with e2 | e2
    · rw [k2] at e2; cases e2; exact hn rfl
    · exact hy (hno y e2)
  have hsm : ∀ y, g y ≠ none → x ≠ y → g' y = g y := fun y hy hn => h2 y (by rw [k2]; intro e; cases e; exact hn rfl) (hh y hy hn)
  have hgb := hT.obj.mem
  have hgm := hT.wm.mem
  refine ⟨⟨?_, hT.evs.same fun y hy => hsm y (hT.evs.mem hy) (by rintro rfl; exact k5 hy), ?_, hT.wnone, fun t w hw hn => ?_, hT.inj, hT.d1, hT.d2, hT.elen, hT.eps, ?_, hT.gib, hT.gim, hT.gie⟩, h1, ?_⟩
  · obtain ⟨q1, c, t, q2, q3⟩ := hT.obj
    exact ⟨q1, c, t, by rw [hsm b hgb k3]; exact q2, q3⟩
  · obtain ⟨es, q1, q2⟩ := hT.wm
    exact ⟨es, by rw [hsm mw hgm k4]; exact q1, q2⟩
  · obtain ⟨l', y, a1, a2, a3, a4⟩ := hT.wsome t w hw hn
    exact ⟨l', y, a1, a2.same fun z hz => hsm z (a2.mem hz) (by rintro rfl; exact k7 t w hw (by rintro rfl; exact hn rfl) hz), a3, a4⟩
  · intro y o hy
    have hgy := hT.gile y o hy
    rw [hsm y (by rw [hgy]; simp) (by rintro rfl; rw [k6] at hy; cases hy)]; exact hgy
  · have hx' : ∃ x', blkOf v' = some x' := by
      obtain ⟨a, cap, rfl, _, _, h5⟩ := h1
      rcases h5 with ⟨_, h6, _⟩ | ⟨y, c, t, rfl, _⟩
      · exact absurd h6 hne
      · exact ⟨y, rfl⟩
    obtain ⟨x', hx'⟩ := hx'
    refine ⟨x', hx', ?_⟩
    rcases h3 x' hx' with e | e
    · rw [k2] at e; cases e; exact ⟨k3, k4, k5, k6, k7⟩
    · have e' := hno x' e
      refine ⟨by rintro rfl; exact hgb e', by rintro rfl; exact hgm e', fun e2 => hT.evs.mem e2 e', ?_, fun t w hw hn e2 => ?_⟩
      · cases hgx : gi x' with
        | none => rfl
        | some o => rw [hT.gile x' o hgx] at e'; cases e'
      · obtain ⟨l', y, a1, a2, a3, a4⟩ := hT.wsome t w hw (by intro e3; cases e3; exact hn rfl)
        exact a2.mem e2 e'
end Go.Cw
