/- Part 2 of the proof of TopRule: a small language for the program's functions, its soundness, and what the functions do. No conditions beyond the theorems' own. -/
import Derived.Test.YthhepmakjimhlabDoorCw1
import Derived.Below
import Derived.Carry
import Derived.Deep.Slices
import Derived.LaidLaws
import Derived.Lib.ItoaNum
import Derived.Lib.LaidTab
import Derived.Lib.Repeat
import Derived.Lib.SplitLaws
import Derived.OpenShut
import Derived.ProofKit
import Derived.Shelf.LaysM
import Derived.Shelf.Strconv.AtoiAll
import Derived.Shelf.Strconv.Itoa3
import Derived.Shelf.Strings.Cut
import Derived.Shelf.Strings.Prefix
import Derived.Shelf.Strings.Repeat
import Derived.Shelf.Strings.Split
import Derived.ShutString
import Derived.WalkKit
import GoSem.ClaimJoined
set_option linter.unusedSimpArgs false
set_option linter.unusedVariables false
namespace Go.Cw
open Go
def dig (d : Nat) : UInt8 := UInt8.ofNat (48 + d % 10)
def dec (n : Nat) : List UInt8 := if h : n < 10 then [dig n] else dec (n / 10) ++ [dig n]
termination_by n
decreasing_by omega
theorem dec_lt {n : Nat} (h : n < 10) : dec n = [dig n] := by rw [dec, dif_pos h]
theorem dec_ge {n : Nat} (h : 10 ≤ n) : dec n = dec (n / 10) ++ [dig n] := by rw [dec, dif_neg (by omega)]
theorem dig_val (d : Nat) : (dig d).toNat = 48 + d % 10 := by
  have : 48 + d % 10 < 256 := by omega
  simp [dig, Nat.mod_eq_of_lt this]
theorem dec_digits (n : Nat) : ∀ b ∈ dec n, 48 ≤ b.toNat ∧ b.toNat ≤ 57 := by
  induction n using Nat.strongRecOn with
  | _ n ih =>
    intro b hb
    by_cases h : n < 10
    · rw [dec_lt h, List.mem_singleton] at hb; subst hb; rw [dig_val]; omega
    · rw [dec_ge (by omega), List.mem_append, List.mem_singleton] at hb
      rcases hb with hb | rfl
      · exact ih _ (by omega) b hb
      · rw [dig_val]; omega
theorem dec_ne (n : Nat) : dec n ≠ [] := by
  by_cases h : n < 10
  · rw [dec_lt h]; simp
  · rw [dec_ge (by omega)]; simp
theorem dec_inj : ∀ {a b : Nat}, dec a = dec b → a = b := by
  intro a
  induction a using Nat.strongRecOn with
  | _ a ih =>
    intro b h
    have hd : ∀ x y : Nat, dig x = dig y → x % 10 = y % 10 := by
      intro x y e
      have := congrArg UInt8.toNat e
      rw [dig_val, dig_val] at this; omega
    by_cases h1 : a < 10 <;> by_cases h2 : b < 10
    · rw [dec_lt h1, dec_lt h2] at h
      have := hd _ _ (by simpa using h); omega
    · rw [dec_lt h1, dec_ge (by omega)] at h
      have := congrArg List.length h
      have hne := List.length_pos_iff.2 (dec_ne (b / 10))
      rw [List.length_append] at this
      simp only [List.length_singleton] at this
      omega
    · rw [dec_lt h2, dec_ge (n := a) (by omega)] at h
      have := congrArg List.length h
      have hne := List.length_pos_iff.2 (dec_ne (a / 10))
      rw [List.length_append] at this
      simp only [List.length_singleton] at this
      omega
    · rw [dec_ge (by omega), dec_ge (n := b) (by omega)] at h
      obtain ⟨e1, e2⟩ := List.append_inj' h rfl
      have h3 := ih (a / 10) (by omega) e1
      have h4 := hd _ _ (by simpa using e2)
      omega
theorem dec_len : ∀ (k : Nat) {n : Nat}, n < 10 ^ k → 0 < k → (dec n).length ≤ k := by
  intro k
  induction k with
  | zero => intro n _ h; omega
  | succ k ih =>
    intro n hn _
    by_cases h : n < 10
    · rw [dec_lt h]; simp
    · rw [dec_ge (by omega), List.length_append, List.length_singleton]
      have hk : 0 < k := by
        rcases Nat.eq_zero_or_pos k with rfl | hk
        · simp at hn; omega
        · exact hk
      have := ih (n := n / 10) (by rw [Nat.pow_succ] at hn; omega) hk
      omega
end Go.Cw
namespace Go.Cw
open Go
theorem OwnS.put {α : Type} {enc : α → List Value} {sz : Nat} (he : ∀ x, (enc x).length = sz) {h0 h : Heap} {v : Value} {L M : List α} (hone : ∀ x ∈ M, (enc x).all Cw.one = true) (ho : OwnS enc sz h0 h v L) {j : Nat} (hj : j + M.length ≤ L.length) (hL : L ≠ []) :
    ∃ h', putRow h (elt v (j * sz)) (M.flatMap enc) = some h' ∧ OwnS enc sz h0 h' v (L.take j ++ M ++ L.drop (j + M.length)) := by
  obtain ⟨h1, a, cap, rfl, h2, h3, h4⟩ := ho
  rcases h4 with ⟨_, e, _⟩ | ⟨b, c, t, rfl, hb0, hb, hcs, hc⟩
  · exact absurd e hL
  have fl := flat_len he L
  have flM := flat_len he M
  have hle : j * sz + M.length * sz ≤ L.length * sz := by rw [← Nat.add_mul]; exact Nat.mul_le_mul_right sz hj
  have hcap : L.length * sz ≤ cap * sz := Nat.mul_le_mul_right sz h2
  have hlen : (L.take j ++ M ++ L.drop (j + M.length)).length = L.length := by simp only [List.length_append, List.length_take, List.length_drop]; omega
  have hall : (M.flatMap enc).all Cw.one = true := by
    rw [List.all_flatMap, List.all_eq_true]; intro y hy; exact hone y hy
  refine ⟨h.set b (.cells (putL c (j * sz) (M.flatMap enc)) t (0, 0)), ?_, ?_⟩
  · simp only [elt]
    rw [addr_add' _ rfl]
    cases hf : M.flatMap enc with
    | nil =>
      simp only [putRow, putL, Option.some.injEq]
      funext y
      simp only [Heap.set]
      split
      · rename_i e; subst e; exact hb
      · rfl
    | cons y ys =>
      have q1 : 0 + j * sz + (y :: ys).length ≤ c.size := by rw [← hf, flM, hcs]; omega
      have q2 : (y :: ys).all Cw.one = true := by rw [← hf]; exact hall
      simp only [putRow, Option.isSome_none, Bool.false_eq_true, if_false, hb]
      rw [if_pos ⟨q1, q2⟩]
      simp
  · refine ⟨h1.over hb0 _, some ⟨b, 0, none⟩, cap, by rw [hlen], by rw [hlen]; exact h2, h3, .inr ⟨b, _, t, rfl, hb0, Heap.set_eq, ?_, ?_⟩⟩
    · rw [(putL_get c (M.flatMap enc) (j * sz) 0 (by rw [flM, hcs]; omega)).1, hcs]
    · intro i hi
      rw [(putL_get c (M.flatMap enc) (j * sz) i (by rw [flM, hcs]; omega)).2, flM]
      have f1 : ((L.take j).flatMap enc).length = j * sz := by rw [flat_len he, List.length_take]; congr 1; omega
      have hsplit : L.flatMap enc = (L.take j).flatMap enc ++ (((L.drop j).take M.length).flatMap enc ++ (L.drop (j + M.length)).flatMap enc) := by
        rw [← List.flatMap_append, ← List.flatMap_append, ← List.drop_drop, List.take_append_drop, List.take_append_drop]
      have f2 : (((L.drop j).take M.length).flatMap enc).length = M.length * sz := by
        rw [flat_len he, List.length_take, List.length_drop]; congr 1; omega
      rw [List.flatMap_append, List.flatMap_append, List.append_assoc]
      rw [flat_len he, hlen] at hi
      have hci := hc i (by rw [fl]; exact hi)
      by_cases e1 : i < j * sz
      · rw [if_neg (by omega), hci, hsplit, List.getElem?_append_left (by rw [f1]; exact e1), List.getElem?_append_left (by rw [f1]; exact e1)]
      · rw [List.getElem?_append_right (by rw [f1]; omega), f1]
        by_cases e2 : i < j * sz + M.length * sz
        · rw [if_pos ⟨by omega, e2⟩, List.getElem?_append_left (by rw [flM]; omega)]
        · rw [if_neg (by omega), hci, hsplit, List.getElem?_append_right (by rw [f1]; omega), f1, List.getElem?_append_right (by rw [f2]; omega), List.getElem?_append_right (by rw [flM]; omega), f2, flM]
end Go.Cw
namespace Go.Cw
open Go
def encT (s : List UInt8) : List Value := [.string (str s)]
end Go.Cw
namespace Go.Cw
open Go
structure Tg where
  kind : Int
  filter : Int
  part : Int
  company : Int
  ref : Int
  serial : Int
  deriving DecidableEq, Inhabited
def Tg.enc (t : Tg) : List Value := [.int .i64 t.kind, .int .i64 t.filter, .int .i64 t.part, .int .i64 t.company, .int .i64 t.ref, .int .i64 t.serial]
def Tg.zero : Tg := ⟨0, 0, 0, 0, 0, 0⟩
structure Pa where
  cb : Nat
  cd : Nat
  rb : Nat
  rd : Nat
  deriving DecidableEq, Inhabited
def Pa.enc (p : Pa) : List Value := [.int .i64 p.cb, .int .i64 p.cd, .int .i64 p.rb, .int .i64 p.rd]
def partsOf (p : Int) : Option Pa :=
  if p = 0 then some ⟨20, 6, 6, 1⟩ else if p = 1 then some ⟨17, 5, 9, 2⟩ else if p = 2 then some ⟨14, 4, 12, 3⟩ else if p = 3 then some ⟨10, 3, 16, 4⟩ else if p = 4 then some ⟨7, 2, 19, 5⟩ else if p = 5 then some ⟨4, 1, 22, 6⟩ else none
def Tg.bad (t : Tg) : Prop := match partsOf t.part with
  | none => True
  | some a => t.kind < 1 ∨ 3 < t.kind ∨ t.filter < 0 ∨ 7 < t.filter ∨ t.serial < 0 ∨ 16777215 < t.serial ∨ t.company < 0 ∨ (10 ^ a.cd : Nat) ≤ t.company ∨ t.ref < 0 ∨ (10 ^ a.rd : Nat) ≤ t.ref
instance Tg.decBad (t : Tg) : Decidable t.bad := by unfold Tg.bad; split <;> infer_instance
end Go.Cw
namespace Go.Cw
open Go
theorem i_cal {N : Num} {Γ : Ctx} {S : Spec} {k : Nat} {us : List Value} {caps : Array Value} {h : Heap} {K : Value → Heap → Prop} (hs : Sat S (Γ k)) (hx : S (us ++ caps.toList) h K) : efW N Γ .cal (.func (.func (N.fid k)) #[] caps :: us) h K := ⟨k, rfl, rfl, hs _ _ _ hx⟩
end Go.Cw
namespace Go.Cw
open Go
end Go.Cw
namespace Go.Cw
open Go
end Go.Cw
namespace Go.Cw
open Go
def but (b : Nat) (h h' : Heap) : Prop := ∀ x, x ≠ b → h' x = h x
theorem but.le {b : Nat} {h0 h h' : Heap} (hl : Heap.le h0 h) (hn : h0 b = none) (hb : but b h h') : Heap.le h0 h' := by
  intro x o hx
  have : x ≠ b := by intro e; subst e; rw [hn] at hx; cases hx
  rw [hb x this]; exact hl x o hx
theorem but.cell {b : Nat} {h h' : Heap} (hb : but b h h') {a : Addr} (ha : a.block ≠ b) : h'.cell a = h.cell a := by
  simp only [Heap.cell, Heap.cells, hb _ ha]
end Go.Cw
namespace Go.Cw
open Go
theorem but.obj {b : Nat} {h h' : Heap} (hb : but b h h') {a : Addr} {cs : List Value} (ha : a.block ≠ b) (ho : objAt h a cs) : objAt h' a cs := by
  obtain ⟨h1, c, t, h2, h3⟩ := ho
  exact ⟨h1, c, t, by rw [hb _ ha]; exact h2, h3⟩
end Go.Cw
namespace Go.Cw
open Go
end Go.Cw
namespace Go.Cw
open Go
end Go.Cw
namespace Go.Cw
open Go
end Go.Cw
namespace Go.Cw
open Go
def pcs (c : UInt8) : List UInt8 → List (List UInt8)
  | [] => [[]]
  | x :: r => if x = c then [] :: pcs c r else match pcs c r with
    | [] => [[x]]
    | p :: q => (x :: p) :: q
theorem pcs_ne (c : UInt8) (s : List UInt8) : pcs c s ≠ [] := by
  cases s with
  | nil => simp [pcs]
  | cons x r => unfold pcs; split
                · simp
                · split <;> simp
theorem pcs_no {c : UInt8} : ∀ {s : List UInt8}, c ∉ s → pcs c s = [s] := by
  intro s
  induction s with
  | nil => intro _; rfl
  | cons x r ih =>
    intro h
    rw [List.mem_cons, not_or] at h
    unfold pcs
    rw [if_neg (Ne.symm h.1), ih h.2]
theorem pcs_cons {c : UInt8} : ∀ {a b : List UInt8}, c ∉ a → pcs c (a ++ c :: b) = a :: pcs c b := by
  intro a b
  induction a with
  | nil => intro _; simp [pcs]
  | cons x r ih =>
    intro h
    rw [List.mem_cons, not_or] at h
    rw [List.cons_append, pcs, if_neg (Ne.symm h.1), ih h.2]
def cutH (c : UInt8) (s : List UInt8) : List UInt8 := s.takeWhile fun x => x ≠ c
def cutT (c : UInt8) (s : List UInt8) : List UInt8 := (s.dropWhile fun x => x ≠ c).drop 1
theorem pcs_cut {c : UInt8} : ∀ {s : List UInt8}, c ∈ s → pcs c s = cutH c s :: pcs c (cutT c s) := by
  intro s
  induction s with
  | nil => intro h; simp at h
  | cons x r ih =>
    intro h
    by_cases hx : x = c
    · subst hx; simp [pcs, cutH, cutT]
    · rw [pcs, if_neg hx]
      have h2 : c ∈ r := by
        rw [List.mem_cons] at h
        rcases h with e | h
        · exact absurd e.symm hx
        · exact h
      have hd : (decide (x ≠ c)) = true := by simpa using hx
      have e1 : cutH c (x :: r) = x :: cutH c r := by unfold cutH; rw [List.takeWhile_cons, if_pos hd]
      have e2 : cutT c (x :: r) = cutT c r := by unfold cutT; rw [List.dropWhile_cons, if_pos hd]
      rw [ih h2, e1, e2]
def digs (s : List UInt8) : Prop := ∀ b ∈ s, 48 ≤ b.toNat ∧ b.toNat ≤ 57
instance (s : List UInt8) : Decidable (digs s) := by unfold digs; infer_instance
def numv (s : List UInt8) : Nat := s.foldl (fun a b => 10 * a + (b.toNat - 48)) 0
theorem numv_snoc (s : List UInt8) (b : UInt8) : numv (s ++ [b]) = 10 * numv s + (b.toNat - 48) := by simp [numv]
theorem numv_dec (n : Nat) : numv (dec n) = n := by
  induction n using Nat.strongRecOn with
  | _ n ih =>
    by_cases h : n < 10
    · rw [dec_lt h]; simp [numv, dig_val]; omega
    · rw [dec_ge (by omega), numv_snoc, ih _ (by omega), dig_val]; omega
theorem digs_dec (n : Nat) : digs (dec n) := dec_digits n
theorem digs_not {s : List UInt8} (h : digs s) {c : UInt8} (hc : c.toNat < 48 ∨ 57 < c.toNat) : c ∉ s := by
  intro hm; have := h c hm; omega
theorem Tg.good {t : Tg} (h : ¬ t.bad) : ∃ a, partsOf t.part = some a ∧ 1 ≤ t.kind ∧ t.kind ≤ 3 ∧ 0 ≤ t.filter ∧ t.filter ≤ 7 ∧ 0 ≤ t.serial ∧ t.serial ≤ 16777215 ∧ 0 ≤ t.company ∧ t.company < (10 ^ a.cd : Nat) ∧ 0 ≤ t.ref ∧ t.ref < (10 ^ a.rd : Nat) := by
  unfold Tg.bad at h
  split at h
  · exact absurd trivial h
  · rename_i a ha
    exact ⟨a, ha, by omega⟩
end Go.Cw
namespace Go.Cw
open Go
def numOk (s : List UInt8) : Prop := s ≠ [] ∧ s.length ≤ 8 ∧ digs s
instance (s : List UInt8) : Decidable (numOk s) := by unfold numOk; infer_instance
def figOk (s : List UInt8) : Prop := s.length ≤ 9 ∧ digs s
instance (s : List UInt8) : Decidable (figOk s) := by unfold figOk; infer_instance
end Go.Cw
namespace Go.Cw
open Go
end Go.Cw
namespace Go.Cw
open Go
def S176n (T : Heap) : Spec := fun args h K => ∃ n : Nat, args = [.int .i64 (n : Nat)] ∧ n ≤ 9223372036854775807 ∧ Heap.le T h ∧ ∀ h', Heap.le h h' → K (.string (str (dec n))) h'
end Go.Cw
namespace Go.Cw
open Go
def S181 (T : Heap) : Spec := fun args h K => ∃ s, ∃ c : UInt8, args = [.string (str s), .string (str [c])] ∧ s.length ≤ 1000000 ∧ Heap.le T h ∧ ∀ v h', OwnS encT 1 h h' v (pcs c s) → K v h'
theorem pcs_mem_len {c : UInt8} : ∀ {s : List UInt8}, ∀ w ∈ pcs c s, w.length ≤ s.length := by
  intro s
  induction s with
  | nil => intro w hw; simp [pcs] at hw; subst hw; simp
  | cons x r ih =>
    intro w hw
    unfold pcs at hw
    split at hw
    · rw [List.mem_cons] at hw
      rcases hw with rfl | hw
      · simp
      · have := ih w hw; simp; omega
    · split at hw
      · rename_i hp; exact absurd hp (pcs_ne c r)
      · rename_i p q hp
        rw [hp] at ih
        rw [List.mem_cons] at hw
        rcases hw with rfl | hw
        · have := ih p (by simp); simp; omega
        · have := ih w (by simp [hw]); simp; omega
theorem pcs_len (c : UInt8) : ∀ (s : List UInt8), (pcs c s).length ≤ s.length + 1 := by
  intro s
  induction s with
  | nil => simp [pcs]
  | cons x r ih =>
    unfold pcs
    split
    · simp; omega
    · split
      · simp
      · rename_i p q hp; rw [hp] at ih; simp at ih ⊢; omega
end Go.Cw
namespace Go.Cw
open Go
end Go.Cw
namespace Go.Cw
open Go
end Go.Cw
namespace Go.Cw
open Go
structure Rl where
  name : List UInt8
  kind : Int
  first : Int
  thn : Int
  wout : Int
  wthn : Int
  deriving DecidableEq, Inhabited
def Rl.enc (r : Rl) : List Value := [.string (str r.name), .int .i64 r.kind, .int .i64 r.first, .int .i64 r.thn, .int .i64 r.wout, .int .i64 r.wthn]
def aggR (r : Rl) : Value := .agg #[.string (str r.name), .int .i64 r.kind, .int .i64 r.first, .int .i64 r.thn, .int .i64 r.wout, .int .i64 r.wthn]
def letters (s : List UInt8) : Prop := ∀ b ∈ s, 97 ≤ b.toNat ∧ b.toNat ≤ 122
instance (s : List UInt8) : Decidable (letters s) := by unfold letters; infer_instance
def nameOk (s : List UInt8) : Prop := s ≠ [] ∧ s.length ≤ 12 ∧ letters s
instance (s : List UInt8) : Decidable (nameOk s) := by unfold nameOk; infer_instance
def Rl.bound (r : Rl) : Prop := r.kind < 0 ∨ 3 < r.kind ∨ r.first < 0 ∨ 7 < r.first ∨ r.thn < 0 ∨ 7 < r.thn ∨ r.wout < -1 ∨ 7 < r.wout ∨ r.wthn < 1 ∨ 50 < r.wthn
def Rl.shape (r : Rl) : Prop := r.first = r.thn ∨ r.wout = r.first ∨ r.wout = r.thn
instance (r : Rl) : Decidable r.bound := by unfold Rl.bound; infer_instance
instance (r : Rl) : Decidable r.shape := by unfold Rl.shape; infer_instance
def ruleF (r : Rl) : Nat := if ¬ nameOk r.name then 4 else if r.bound then 1 else if r.shape then 3 else 0
theorem ruleF_zero {r : Rl} : ruleF r = 0 ↔ nameOk r.name ∧ ¬ r.bound ∧ ¬ r.shape := by
  unfold ruleF
  by_cases h1 : nameOk r.name
  · by_cases h2 : r.bound
    · simp [h1, h2]
    · by_cases h3 : r.shape <;> simp [h1, h2, h3]
  · simp [h1]
def kn (k : Int) : List UInt8 := if k = 1 then [105, 116, 101, 109] else if k = 2 then [99, 97, 115, 101] else if k = 3 then [112, 97, 108, 108, 101, 116] else [97, 110, 121]
theorem kn_no (k : Int) : (32 : UInt8) ∉ kn k := by
  unfold kn
  repeat' split
  all_goals decide
theorem kn_inj {k k' : Int} (h1 : 0 ≤ k) (h2 : k ≤ 3) (h3 : 0 ≤ k') (h4 : k' ≤ 3) (h : kn k = kn k') : k = k' := by
  unfold kn at h
  repeat' split at h
  all_goals first | omega | (simp at h; done)
def wThen : List UInt8 := [116, 104, 101, 110]
def wWithout : List UInt8 := [119, 105, 116, 104, 111, 117, 116]
def wWithin : List UInt8 := [119, 105, 116, 104, 105, 110]
def ruleW (r : Rl) : List (List UInt8) := [r.name ++ [58], kn r.kind, dec r.first.toNat, wThen, dec r.thn.toNat] ++ ((if 0 ≤ r.wout then [wWithout, dec r.wout.toNat] else []) ++ [wWithin, dec r.wthn.toNat])
def joinS (c : UInt8) : List (List UInt8) → List UInt8
  | [] => []
  | [a] => a
  | a :: b :: r => a ++ c :: joinS c (b :: r)
theorem pcs_join {c : UInt8} : ∀ (ws : List (List UInt8)), ws ≠ [] → (∀ w ∈ ws, c ∉ w) → pcs c (joinS c ws) = ws := by
  intro ws
  induction ws with
  | nil => intro h; exact absurd rfl h
  | cons a r ih =>
    intro _ h
    cases r with
    | nil => exact pcs_no (h a (by simp))
    | cons b r =>
      simp only [joinS]
      rw [pcs_cons (h a (by simp)), ih (by simp) fun w hw => h w (by simp at hw ⊢; right; exact hw)]
def ruleText (r : Rl) : List UInt8 := joinS 32 (ruleW r)
theorem ruleText_eq (r : Rl) : ruleText r = r.name ++ [58, 32] ++ kn r.kind ++ [32] ++ dec r.first.toNat ++ [32, 116, 104, 101, 110, 32] ++ dec r.thn.toNat ++ (if 0 ≤ r.wout then [32, 119, 105, 116, 104, 111, 117, 116, 32] ++ dec r.wout.toNat else []) ++ ([32, 119, 105, 116, 104, 105, 110, 32] ++ dec r.wthn.toNat) := by
  unfold ruleText ruleW
  by_cases h : 0 ≤ r.wout
  · simp [h, joinS, wThen, wWithout, wWithin]
  · simp [h, joinS, wThen, wWithout, wWithin]
theorem letters_no {s : List UInt8} (h : letters s) {c : UInt8} (hc : c.toNat < 97 ∨ 122 < c.toNat) : c ∉ s := by
  intro hm; have := h c hm; omega
theorem ruleW_no {r : Rl} (h : letters r.name) : ∀ w ∈ ruleW r, (32 : UInt8) ∉ w := by
  have hd : ∀ n, (32 : UInt8) ∉ dec n := fun n => digs_not (digs_dec n) (.inl (by decide))
  intro w hw
  unfold ruleW at hw
  simp only [List.mem_append, List.mem_cons, List.not_mem_nil, or_false] at hw
  rcases hw with (rfl | rfl | rfl | rfl | rfl) | (hw | rfl | rfl)
  · rw [List.mem_append, not_or]
    exact ⟨letters_no h (.inl (by decide)), by decide⟩
  · exact kn_no _
  · exact hd _
  · decide
  · exact hd _
  · split at hw
    · simp only [List.mem_cons, List.not_mem_nil, or_false] at hw
      rcases hw with rfl | rfl
      · decide
      · exact hd _
    · simp at hw
  · decide
  · exact hd _
theorem ruleText_pcs {r : Rl} (h : letters r.name) : pcs 32 (ruleText r) = ruleW r := pcs_join _ (by simp [ruleW]) (ruleW_no h)
theorem ruleText_inj {r q : Rl} (h1 : ruleF r = 0) (h2 : ruleF q = 0) (h : ruleText r = ruleText q) : r = q := by
  rw [ruleF_zero] at h1 h2
  obtain ⟨⟨_, _, l1⟩, b1, _⟩ := h1
  obtain ⟨⟨_, _, l2⟩, b2, _⟩ := h2
  have e := ruleText_pcs l1
  rw [h, ruleText_pcs l2] at e
  unfold Rl.bound at b1 b2
  unfold ruleW at e
  have hdi : ∀ {a b : Int}, 0 ≤ a → 0 ≤ b → dec a.toNat = dec b.toNat → a = b := fun {a b} ha hb e => by have := dec_inj e; omega
  cases r with
  | mk n k f t wo wi =>
  cases q with
  | mk n' k' f' t' wo' wi' =>
  dsimp only at *
  simp only [List.cons_append, List.nil_append, List.cons.injEq, List.append_cancel_right_eq] at e
  obtain ⟨e1, e2, e3, _, e4, e5⟩ := e
  have k1 := kn_inj (by omega) (by omega) (by omega) (by omega) e2
  have k2 := hdi (by omega) (by omega) e3
  have k3 := hdi (by omega) (by omega) e4
  subst e1 k1 k2 k3
  by_cases hw : 0 ≤ wo <;> by_cases hw' : 0 ≤ wo'
  · simp only [hw, hw', if_true, List.cons_append, List.nil_append, List.cons.injEq, and_true, true_and] at e5
    have k4 := hdi (by omega) (by omega) e5.1
    have k5 := hdi (by omega) (by omega) e5.2
    subst k4 k5; rfl
  · simp only [hw, hw', if_true, if_false, List.cons_append, List.nil_append] at e5
    have := congrArg List.length e5; simp at this
  · simp only [hw, hw', if_true, if_false, List.cons_append, List.nil_append] at e5
    have := congrArg List.length e5; simp at this
  · simp only [hw, hw', if_false, List.nil_append, List.cons.injEq, and_true, true_and] at e5
    have k5 := hdi (by omega) (by omega) e5
    have k4 : wo = wo' := by omega
    subst k4 k5; rfl
end Go.Cw
namespace Go.Cw
open Go
theorem letters_take {s : List UInt8} {i : Nat} (h : letters (s.take i)) (hi : i < s.length) (h1 : 97 ≤ (s.getD i 0).toNat) (h2 : (s.getD i 0).toNat ≤ 122) : letters (s.take (i + 1)) := by
  intro b hb
  rw [take_succ_d 0 hi, List.mem_append, List.mem_singleton] at hb
  rcases hb with hb | rfl
  · exact h b hb
  · exact ⟨h1, h2⟩
theorem letters_at {s : List UInt8} (h : letters s) {i : Nat} (hi : i < s.length) : 97 ≤ (s.getD i 0).toNat ∧ (s.getD i 0).toNat ≤ 122 := h _ (getD_mem 0 hi)
def S186 : Spec := fun args h K => ∃ s, args = [.string (str s)] ∧ s.length ≤ 10000000 ∧ K (.bool (decide (nameOk s))) h
theorem F186_ok {N : Num} {Γ : Ctx} [GoodC Γ] : Sat S186 (SF N Γ F186) := by
  rintro _ h K ⟨s, rfl, hsl, hK⟩
  refine i_fun rfl ?_
  simp only [F186, env0, List.map, List.length, List.replicate, List.cons_append, List.nil_append, Nat.reduceSub, Nat.reduceAdd]
  try simp (disch := first | omega | (simp only [PL]; omega)) only [PS, P1, P2, P3, P4, P5, P6, P7, P8, PA, PB, PC, Nat.reduceAdd, Nat.reduceSub, Nat.reduceMul, Nat.reduceLeDiff, Nat.reduceEqDiff, Nat.succ_ne_self, reduceCtorEq, Int.reduceToNat, Int.cast_ofNat_Int, Int.reduceEq, Int.reduceNe, Int.reduceLT, Int.reduceLE]
  refine i_loop (fun i : Nat => [some (.string (str s)), none, none, some (.int .i64 (s.length : Nat)), some (.int .i64 (i : Nat)), none, none]) (fun i H => H = h ∧ i ≤ s.length ∧ letters (s.take i)) (fun i => s.length - i) 0 (by try simp only [Pe, and_true, true_and, and_self]; simp) ⟨rfl, by omega, by intro b hb; simp at hb⟩ ?_
  rintro i H ⟨rfl, hi, hd⟩
  have hwi : IntKind.i64.wrap ((i : Int) + 1) = ((i + 1 : Nat) : Int) := by rw [w64 (by omega) (by omega)]; omega
  try simp (disch := first | omega | (simp only [PL]; omega)) only [PS, P1, P2, P3, P4, P5, P6, P7, P8, PA, PB, PC, Nat.reduceAdd, Nat.reduceSub, Nat.reduceMul, Nat.reduceLeDiff, Nat.reduceEqDiff, Nat.succ_ne_self, reduceCtorEq, Int.reduceToNat, Int.cast_ofNat_Int, Int.reduceEq, Int.reduceNe, Int.reduceLT, Int.reduceLE]
  refine i_cond (fun c2 => ?_) (fun c2 => ?_)
  rotate_left
  · have : i = s.length := by omega
    subst this
    rw [List.take_length] at hd
    have e : decide (nameOk s) = decide (s ≠ [] ∧ (s.length : Int) ≤ 12) := decide_eq_decide.2 ⟨fun ⟨h1, h2, _⟩ => ⟨h1, by omega⟩, fun ⟨h1, h2⟩ => ⟨h1, by omega, hd⟩⟩
    rw [e] at hK
    try simp (disch := first | omega | (simp only [PL]; omega)) only [PS, P1, P2, P3, P4, P5, P6, P7, P8, PA, PB, PC, Nat.reduceAdd, Nat.reduceSub, Nat.reduceMul, Nat.reduceLeDiff, Nat.reduceEqDiff, Nat.succ_ne_self, reduceCtorEq, Int.reduceToNat, Int.cast_ofNat_Int, Int.reduceEq, Int.reduceNe, Int.reduceLT, Int.reduceLE]
    exact hK
  have hi2 : i < s.length := by omega
  have hb := (s.getD i 0).toNat_lt
  try simp (disch := first | omega | (simp only [PL]; omega)) only [PS, P1, P2, P3, P4, P5, P6, P7, P8, PA, PB, PC, Nat.reduceAdd, Nat.reduceSub, Nat.reduceMul, Nat.reduceLeDiff, Nat.reduceEqDiff, Nat.succ_ne_self, reduceCtorEq, Int.reduceToNat, Int.cast_ofNat_Int, Int.reduceEq, Int.reduceNe, Int.reduceLT, Int.reduceLE]
  refine i_cond (fun c3 => ?_) (fun c3 => ?_)
  · have hn : ¬ nameOk s := fun hn => by
      have := letters_at hn.2.2 hi2
      omega
    rw [decide_eq_false hn] at hK
    try simp (disch := first | omega | (simp only [PL]; omega)) only [PS, P1, P2, P3, P4, P5, P6, P7, P8, PA, PB, PC, Nat.reduceAdd, Nat.reduceSub, Nat.reduceMul, Nat.reduceLeDiff, Nat.reduceEqDiff, Nat.succ_ne_self, reduceCtorEq, Int.reduceToNat, Int.cast_ofNat_Int, Int.reduceEq, Int.reduceNe, Int.reduceLT, Int.reduceLE]
    exact hK
  · try simp (disch := first | omega | (simp only [PL]; omega)) only [PS, P1, P2, P3, P4, P5, P6, P7, P8, PA, PB, PC, Nat.reduceAdd, Nat.reduceSub, Nat.reduceMul, Nat.reduceLeDiff, Nat.reduceEqDiff, Nat.succ_ne_self, reduceCtorEq, Int.reduceToNat, Int.cast_ofNat_Int, Int.reduceEq, Int.reduceNe, Int.reduceLT, Int.reduceLE, hwi]
    exact k_loop (i + 1) (by omega) (by try simp only [Pe, and_true, true_and, and_self]) ⟨rfl, by omega, letters_take hd hi2 (by omega) (by omega)⟩
def S170 (N : Num) : Spec := fun args h K => ∃ r, args = [aggR r] ∧ r.name.length ≤ 10000000 ∧ K (errV N (ruleF r)) h
theorem F170_ok {N : Num} {Γ : Ctx} [GoodC Γ] (H186 : Sat S186 (Γ 186)) : Sat (S170 N) (SF N Γ F170) := by
  rintro _ h K ⟨r, rfl, hl, hK⟩
  refine i_fun rfl ?_
  simp only [F170, env0, List.map, List.length, List.replicate, List.cons_append, List.nil_append, Nat.reduceSub, Nat.reduceAdd, aggR]
  unfold ruleF at hK
  try simp (disch := first | omega | (simp only [PL]; omega)) only [PS, P1, P2, P3, P4, P5, P6, P7, P8, PA, PB, PC, Nat.reduceAdd, Nat.reduceSub, Nat.reduceMul, Nat.reduceLeDiff, Nat.reduceEqDiff, Nat.succ_ne_self, reduceCtorEq, Int.reduceToNat, Int.cast_ofNat_Int, Int.reduceEq, Int.reduceNe, Int.reduceLT, Int.reduceLE]
  refine i_call H186 ⟨r.name, rfl, hl, ?_⟩
  by_cases hn : nameOk r.name
  rotate_left
  · rw [decide_eq_false hn]
    rw [if_pos hn, errV_succ] at hK
    try simp (disch := first | omega | (simp only [PL]; omega)) only [PS, P1, P2, P3, P4, P5, P6, P7, P8, PA, PB, PC, Nat.reduceAdd, Nat.reduceSub, Nat.reduceMul, Nat.reduceLeDiff, Nat.reduceEqDiff, Nat.succ_ne_self, reduceCtorEq, Int.reduceToNat, Int.cast_ofNat_Int, Int.reduceEq, Int.reduceNe, Int.reduceLT, Int.reduceLE]
    exact hK
  rw [decide_eq_true hn]
  rw [if_neg (by simpa using hn)] at hK
  try simp (disch := first | omega | (simp only [PL]; omega)) only [PS, P1, P2, P3, P4, P5, P6, P7, P8, PA, PB, PC, Nat.reduceAdd, Nat.reduceSub, Nat.reduceMul, Nat.reduceLeDiff, Nat.reduceEqDiff, Nat.succ_ne_self, reduceCtorEq, Int.reduceToNat, Int.cast_ofNat_Int, Int.reduceEq, Int.reduceNe, Int.reduceLT, Int.reduceLE]
  refine i_cond (fun c => ?_) (fun c => ?_)
  · have hb : r.bound := by unfold Rl.bound; omega
    rw [if_pos hb, errV_succ] at hK
    try simp (disch := first | omega | (simp only [PL]; omega)) only [PS, P1, P2, P3, P4, P5, P6, P7, P8, PA, PB, PC, Nat.reduceAdd, Nat.reduceSub, Nat.reduceMul, Nat.reduceLeDiff, Nat.reduceEqDiff, Nat.succ_ne_self, reduceCtorEq, Int.reduceToNat, Int.cast_ofNat_Int, Int.reduceEq, Int.reduceNe, Int.reduceLT, Int.reduceLE]
    exact hK
  have hb : ¬ r.bound := by unfold Rl.bound; omega
  rw [if_neg hb] at hK
  try simp (disch := first | omega | (simp only [PL]; omega)) only [PS, P1, P2, P3, P4, P5, P6, P7, P8, PA, PB, PC, Nat.reduceAdd, Nat.reduceSub, Nat.reduceMul, Nat.reduceLeDiff, Nat.reduceEqDiff, Nat.succ_ne_self, reduceCtorEq, Int.reduceToNat, Int.cast_ofNat_Int, Int.reduceEq, Int.reduceNe, Int.reduceLT, Int.reduceLE]
  refine i_cond (fun c => ?_) (fun c => ?_)
  · have hs : r.shape := by unfold Rl.shape; omega
    rw [if_pos hs, errV_succ] at hK
    try simp (disch := first | omega | (simp only [PL]; omega)) only [PS, P1, P2, P3, P4, P5, P6, P7, P8, PA, PB, PC, Nat.reduceAdd, Nat.reduceSub, Nat.reduceMul, Nat.reduceLeDiff, Nat.reduceEqDiff, Nat.succ_ne_self, reduceCtorEq, Int.reduceToNat, Int.cast_ofNat_Int, Int.reduceEq, Int.reduceNe, Int.reduceLT, Int.reduceLE]
    exact hK
  have hs : ¬ r.shape := by unfold Rl.shape; omega
  rw [if_neg hs, errV_zero] at hK
  try simp (disch := first | omega | (simp only [PL]; omega)) only [PS, P1, P2, P3, P4, P5, P6, P7, P8, PA, PB, PC, Nat.reduceAdd, Nat.reduceSub, Nat.reduceMul, Nat.reduceLeDiff, Nat.reduceEqDiff, Nat.succ_ne_self, reduceCtorEq, Int.reduceToNat, Int.cast_ofNat_Int, Int.reduceEq, Int.reduceNe, Int.reduceLT, Int.reduceLE]
  exact hK
def kindsV : Value := .agg #[.string (str [97, 110, 121]), .string (str [105, 116, 101, 109]), .string (str [99, 97, 115, 101]), .string (str [112, 97, 108, 108, 101, 116])]
def S185 : Spec := fun args h K => args = [] ∧ K kindsV h
theorem F185_ok {N : Num} {Γ : Ctx} [GoodC Γ] : Sat S185 (SF N Γ F185) := by
  rintro _ h K ⟨rfl, hK⟩
  refine i_fun rfl ?_
  simp only [F185, env0, List.map, List.length, List.replicate, List.cons_append, List.nil_append, Nat.reduceSub, Nat.reduceAdd]
  try simp (disch := first | omega | (simp only [PL]; omega)) only [PS, P1, P2, P3, P4, P5, P6, P7, P8, PA, PB, PC, Nat.reduceAdd, Nat.reduceSub, Nat.reduceMul, Nat.reduceLeDiff, Nat.reduceEqDiff, Nat.succ_ne_self, reduceCtorEq, Int.reduceToNat, Int.cast_ofNat_Int, Int.reduceEq, Int.reduceNe, Int.reduceLT, Int.reduceLE]
  exact hK
theorem kinds_at {k : Int} (h1 : 0 ≤ k) (h2 : k ≤ 3) (h : Heap) (ik : IntKind) : o2V h (.vidx 4) (.v kindsV) (.v (.int ik k)) = some (.v (.string (str (kn k)))) := by
  have := P3.2.2.2.2.2.1 h 4 #[.string (str [97, 110, 121]), .string (str [105, 116, 101, 109]), .string (str [99, 97, 115, 101]), .string (str [112, 97, 108, 108, 101, 116])] ik k h1 (by omega)
  unfold kindsV
  rw [this]
  have hk : k = 0 ∨ k = 1 ∨ k = 2 ∨ k = 3 := by omega
  rcases hk with rfl | rfl | rfl | rfl <;> rfl
theorem kn_len (k : Int) : (kn k).length ≤ 6 := by
  unfold kn
  repeat' split
  all_goals decide
end Go.Cw
namespace Go.Cw
open Go
def S169 (T : Heap) (N : Num) : Spec := fun args h K => ∃ r, args = [aggR r] ∧ r.name.length ≤ 10000000 ∧ Heap.le T h ∧ (ruleF r ≠ 0 → ∀ h', Heap.le h h' → K (.tuple #[.string (str []), errV N (ruleF r)]) h') ∧ (ruleF r = 0 → ∀ h', Heap.le h h' → K (.tuple #[.string (str (ruleText r)), .nilIface]) h')
theorem F169_ok {N : Num} {Γ : Ctx} [GoodC Γ] {T : Heap} (H170 : Sat (S170 N) (Γ 170)) (H185 : Sat S185 (Γ 185)) (H176 : Sat (S176n T) (Γ 176)) : Sat (S169 T N) (SF N Γ F169) := by
  rintro _ h K ⟨r, rfl, hl, hT, hK1, hK2⟩
  refine i_fun rfl ?_
  simp only [F169, env0, List.map, List.length, List.replicate, List.cons_append, List.nil_append, Nat.reduceSub, Nat.reduceAdd, aggR]
  try simp (disch := first | omega | (simp only [PL]; omega)) only [PS, P1, P2, P3, P4, P5, P6, P7, P8, PA, PB, PC, Nat.reduceAdd, Nat.reduceSub, Nat.reduceMul, Nat.reduceLeDiff, Nat.reduceEqDiff, Nat.succ_ne_self, reduceCtorEq, Int.reduceToNat, Int.cast_ofNat_Int, Int.reduceEq, Int.reduceNe, Int.reduceLT, Int.reduceLE]
  refine i_call H170 ⟨r, rfl, hl, ?_⟩
  by_cases hf : ruleF r = 0
  rotate_left
  · have hK := hK1 hf
    obtain ⟨f, hf'⟩ : ∃ f, ruleF r = f + 1 := ⟨ruleF r - 1, by omega⟩
    rw [hf'] at hK ⊢
    try simp (disch := first | omega | (simp only [PL]; omega)) only [PS, P1, P2, P3, P4, P5, P6, P7, P8, PA, PB, PC, Nat.reduceAdd, Nat.reduceSub, Nat.reduceMul, Nat.reduceLeDiff, Nat.reduceEqDiff, Nat.succ_ne_self, reduceCtorEq, Int.reduceToNat, Int.cast_ofNat_Int, Int.reduceEq, Int.reduceNe, Int.reduceLT, Int.reduceLE, errV_succ]
    rw [errV_succ] at hK
    exact hK h (Heap.le.refl h)
  have hK := hK2 hf
  clear hK1 hK2
  rw [hf]
  have hz := (ruleF_zero.1 hf)
  obtain ⟨⟨hn1, hn2, hn3⟩, hb, _⟩ := hz
  unfold Rl.bound at hb
  obtain ⟨fn, hfn⟩ : ∃ n : Nat, r.first = n := ⟨r.first.toNat, by omega⟩
  obtain ⟨tn, htn⟩ : ∃ n : Nat, r.thn = n := ⟨r.thn.toNat, by omega⟩
  obtain ⟨wn, hwn⟩ : ∃ n : Nat, r.wthn = n := ⟨r.wthn.toNat, by omega⟩
  rw [ruleText_eq] at hK
  simp only [hfn, htn, hwn, Int.toNat_natCast] at hK
  have hkv := kinds_at (k := r.kind) (by omega) (by omega)
  unfold kindsV at hkv
  have l1 := kn_len r.kind
  have l2 := dec_len 19 (n := fn) (by omega) (by omega)
  have l3 := dec_len 19 (n := tn) (by omega) (by omega)
  have l4 := dec_len 19 (n := wn) (by omega) (by omega)
  rw [hfn, htn, hwn]
  try simp (disch := first | omega | (simp only [PL]; omega)) only [PS, P1, P2, P3, P4, P5, P6, P7, P8, PA, PB, PC, Nat.reduceAdd, Nat.reduceSub, Nat.reduceMul, Nat.reduceLeDiff, Nat.reduceEqDiff, Nat.succ_ne_self, reduceCtorEq, Int.reduceToNat, Int.cast_ofNat_Int, Int.reduceEq, Int.reduceNe, Int.reduceLT, Int.reduceLE, errV_zero]
  refine i_call H185 ⟨rfl, ?_⟩
  refine i_le (le_one (Heap.le.refl _)) ?_
  unfold kindsV
  try simp (disch := first | omega | (simp only [PL]; omega)) only [PS, P1, P2, P3, P4, P5, P6, P7, P8, PA, PB, PC, Nat.reduceAdd, Nat.reduceSub, Nat.reduceMul, Nat.reduceLeDiff, Nat.reduceEqDiff, Nat.succ_ne_self, reduceCtorEq, Int.reduceToNat, Int.cast_ofNat_Int, Int.reduceEq, Int.reduceNe, Int.reduceLT, Int.reduceLE, hkv]
  refine i_call H176 ⟨fn, rfl, by omega, hT, fun h3 hle3 => ?_⟩
  try simp (disch := first | omega | (simp only [PL]; omega)) only [PS, P1, P2, P3, P4, P5, P6, P7, P8, PA, PB, PC, Nat.reduceAdd, Nat.reduceSub, Nat.reduceMul, Nat.reduceLeDiff, Nat.reduceEqDiff, Nat.succ_ne_self, reduceCtorEq, Int.reduceToNat, Int.cast_ofNat_Int, Int.reduceEq, Int.reduceNe, Int.reduceLT, Int.reduceLE]
  refine i_lew (le_one hle3) ?_
  try simp (disch := first | omega | (simp only [PL]; omega)) only [PS, P1, P2, P3, P4, P5, P6, P7, P8, PA, PB, PC, Nat.reduceAdd, Nat.reduceSub, Nat.reduceMul, Nat.reduceLeDiff, Nat.reduceEqDiff, Nat.succ_ne_self, reduceCtorEq, Int.reduceToNat, Int.cast_ofNat_Int, Int.reduceEq, Int.reduceNe, Int.reduceLT, Int.reduceLE]
  refine i_call H176 ⟨tn, rfl, by omega, hT.trans hle3, fun h4 hle4 => ?_⟩
  have hle04 := hle3.trans hle4
  try simp (disch := first | omega | (simp only [PL]; omega)) only [PS, P1, P2, P3, P4, P5, P6, P7, P8, PA, PB, PC, Nat.reduceAdd, Nat.reduceSub, Nat.reduceMul, Nat.reduceLeDiff, Nat.reduceEqDiff, Nat.succ_ne_self, reduceCtorEq, Int.reduceToNat, Int.cast_ofNat_Int, Int.reduceEq, Int.reduceNe, Int.reduceLT, Int.reduceLE]
  refine i_lew (le_one hle04) ?_
  try simp (disch := first | omega | (simp only [PL]; omega)) only [PS, P1, P2, P3, P4, P5, P6, P7, P8, PA, PB, PC, Nat.reduceAdd, Nat.reduceSub, Nat.reduceMul, Nat.reduceLeDiff, Nat.reduceEqDiff, Nat.succ_ne_self, reduceCtorEq, Int.reduceToNat, Int.cast_ofNat_Int, Int.reduceEq, Int.reduceNe, Int.reduceLT, Int.reduceLE]
  by_cases hw : 0 ≤ r.wout
  · rw [if_pos hw] at hK
    obtain ⟨on, hon⟩ : ∃ n : Nat, r.wout = n := ⟨r.wout.toNat, by omega⟩
    have l5 := dec_len 19 (n := on) (by omega) (by omega)
    have hc : (0 ≤ ((on : Nat) : Int)) = True := by rw [eq_iff_iff]; simp
    simp only [hon, Int.toNat_natCast] at hK
    rw [hon]
    try simp (disch := first | omega | (simp only [PL]; omega)) only [PS, P1, P2, P3, P4, P5, P6, P7, P8, PA, PB, PC, Nat.reduceAdd, Nat.reduceSub, Nat.reduceMul, Nat.reduceLeDiff, Nat.reduceEqDiff, Nat.succ_ne_self, reduceCtorEq, Int.reduceToNat, Int.cast_ofNat_Int, Int.reduceEq, Int.reduceNe, Int.reduceLT, Int.reduceLE, hc]
    refine i_call H176 ⟨on, rfl, by omega, hT.trans hle04, fun h5 hle5 => ?_⟩
    try simp (disch := first | omega | (simp only [PL]; omega)) only [PS, P1, P2, P3, P4, P5, P6, P7, P8, PA, PB, PC, Nat.reduceAdd, Nat.reduceSub, Nat.reduceMul, Nat.reduceLeDiff, Nat.reduceEqDiff, Nat.succ_ne_self, reduceCtorEq, Int.reduceToNat, Int.cast_ofNat_Int, Int.reduceEq, Int.reduceNe, Int.reduceLT, Int.reduceLE]
    refine i_call H176 ⟨wn, rfl, by omega, hT.trans (hle04.trans hle5), fun h6 hle6 => ?_⟩
    have := hK h6 (hle04.trans (hle5.trans hle6))
    simp only [List.append_assoc, List.cons_append, List.nil_append] at this
    try simp (disch := first | omega | (simp only [PL]; omega)) only [PS, P1, P2, P3, P4, P5, P6, P7, P8, PA, PB, PC, Nat.reduceAdd, Nat.reduceSub, Nat.reduceMul, Nat.reduceLeDiff, Nat.reduceEqDiff, Nat.succ_ne_self, reduceCtorEq, Int.reduceToNat, Int.cast_ofNat_Int, Int.reduceEq, Int.reduceNe, Int.reduceLT, Int.reduceLE]
    simp only [List.append_assoc, List.cons_append, List.nil_append]
    exact this
  · rw [if_neg hw] at hK
    have hc : (0 ≤ r.wout) = False := by rw [eq_iff_iff]; simp; omega
    try simp (disch := first | omega | (simp only [PL]; omega)) only [PS, P1, P2, P3, P4, P5, P6, P7, P8, PA, PB, PC, Nat.reduceAdd, Nat.reduceSub, Nat.reduceMul, Nat.reduceLeDiff, Nat.reduceEqDiff, Nat.succ_ne_self, reduceCtorEq, Int.reduceToNat, Int.cast_ofNat_Int, Int.reduceEq, Int.reduceNe, Int.reduceLT, Int.reduceLE, hc]
    refine i_call H176 ⟨wn, rfl, by omega, hT.trans hle04, fun h6 hle6 => ?_⟩
    have := hK h6 (hle04.trans hle6)
    simp only [List.append_assoc, List.cons_append, List.nil_append] at this
    try simp (disch := first | omega | (simp only [PL]; omega)) only [PS, P1, P2, P3, P4, P5, P6, P7, P8, PA, PB, PC, Nat.reduceAdd, Nat.reduceSub, Nat.reduceMul, Nat.reduceLeDiff, Nat.reduceEqDiff, Nat.succ_ne_self, reduceCtorEq, Int.reduceToNat, Int.cast_ofNat_Int, Int.reduceEq, Int.reduceNe, Int.reduceLT, Int.reduceLE]
    simp only [List.append_assoc, List.cons_append, List.nil_append]
    exact this
theorem aggR_same (h : Heap) (r : Rl) (b : Bool) : o2V h (.eqv (.flat [.str, .int, .int, .int, .int, .int]) b) (.v (aggR r)) (.v (aggR r)) = some (.v (.bool (!b))) := by
  have key : cellsEq [.str, .int, .int, .int, .int, .int] [.string (str r.name), .int .i64 r.kind, .int .i64 r.first, .int .i64 r.thn, .int .i64 r.wout, .int .i64 r.wthn] [.string (str r.name), .int .i64 r.kind, .int .i64 r.first, .int .i64 r.thn, .int .i64 r.wout, .int .i64 r.wthn] = some true := by
    simp only [cellsEq_int, cellsEq_str, cellsEq_nil, if_true]
  simp only [o2V, aggR, eqV]
  rw [key]; cases b <;> rfl
end Go.Cw
namespace Go.Cw
open Go
def S190 (T : Heap) : Spec := fun args h K => ∃ s, args = [.string (str s)] ∧ s.length ≤ 1000000 ∧ Heap.le T h ∧ ∀ h' (z : Int) e, Heap.le h h' → (∀ n, s = dec n → n ≤ 1000000000000000 → z = (n : Nat) ∧ e = .nilIface) → (e = .nilIface ∨ ∃ t a, e = .iface t a) → K (.tuple #[.int .i64 z, e]) h'
def trimC (c : UInt8) (s : List UInt8) : List UInt8 := if s.getLast? = some c then s.dropLast else s
def S191 : Spec := fun args h K => ∃ s, ∃ c : UInt8, args = [.string (str s), .string (str [c])] ∧ s.length ≤ 1000000 ∧ ∀ h', Heap.le h h' → K (.string (str (trimC c s))) h'
theorem trimC_snoc (c : UInt8) (s : List UInt8) : trimC c (s ++ [c]) = s := by simp [trimC]
theorem trimC_len (c : UInt8) (s : List UInt8) : (trimC c s).length ≤ s.length := by unfold trimC; split <;> simp
def S188 : Spec := fun args h K => ∃ g b5 b3 v w, ∃ k : Nat, args = [.pointer (some ⟨b5, 0, none⟩), .pointer (some ⟨b3, 0, none⟩)] ∧ Heap.le g h ∧ g b5 = none ∧ g.cell ⟨b3, 0, none⟩ = some v ∧ Sl encT g v w ∧ w.length ≤ 10000000 ∧ objAt h ⟨b5, 0, none⟩ [.int .i64 (k : Nat)] ∧ k ≤ w.length ∧
  ∀ h', but b5 h h' → objAt h' ⟨b5, 0, none⟩ [.int .i64 (min (k + 1) w.length : Nat)] → K (.string (str (w.getD k []))) h'
theorem F188_ok {N : Num} {Γ : Ctx} [GoodC Γ] : Sat S188 (SF N Γ F188) := by
  rintro _ h K ⟨g, b5, b3, v, w, k, rfl, hg, hgb, hc, hS, hwl, ho, hk, hK⟩
  refine i_fun rfl ?_
  simp only [F188, env0, List.map, List.length, List.replicate, List.cons_append, List.nil_append, Nat.reduceSub, Nat.reduceAdd]
  have C5 : h.cell ⟨b5, 0, none⟩ = some (.int .i64 (k : Nat)) := ho.rules.2.1 (by simp)
  have C3 := cell_hmono hg hc
  have R := (hS.le hg).rules1 (fun t => .string (str t)) (fun _ => rfl) default
  try simp (disch := first | omega | (simp only [PL]; omega)) only [PS, P1, P2, P3, P4, P5, P6, P7, P8, PA, PB, PC, Nat.reduceAdd, Nat.reduceSub, Nat.reduceMul, Nat.reduceLeDiff, Nat.reduceEqDiff, Nat.succ_ne_self, reduceCtorEq, Int.reduceToNat, Int.cast_ofNat_Int, Int.reduceEq, Int.reduceNe, Int.reduceLT, Int.reduceLE, C5, C3, R]
  refine i_cond (fun c => ?_) (fun c => ?_)
  · have hkl : k = w.length := by omega
    have e1 : min (k + 1) w.length = k := by omega
    have e2 : w.getD k [] = [] := by rw [List.getD_eq_getElem?_getD, List.getElem?_eq_none (by omega)]; rfl
    rw [e1, e2] at hK
    try simp (disch := first | omega | (simp only [PL]; omega)) only [PS, P1, P2, P3, P4, P5, P6, P7, P8, PA, PB, PC, Nat.reduceAdd, Nat.reduceSub, Nat.reduceMul, Nat.reduceLeDiff, Nat.reduceEqDiff, Nat.succ_ne_self, reduceCtorEq, Int.reduceToNat, Int.cast_ofNat_Int, Int.reduceEq, Int.reduceNe, Int.reduceLT, Int.reduceLE]
    exact hK h (fun x _ => rfl) ho
  have hk2 : k < w.length := by omega
  have hw1 : IntKind.i64.wrap ((k : Int) + 1) = ((k + 1 : Nat) : Int) := by rw [w64 (by omega) (by omega)]; omega
  have hw2 : IntKind.i64.wrap (((k + 1 : Nat) : Int) - 1) = (k : Nat) := by rw [w64 (by omega) (by omega)]; omega
  try simp (disch := first | omega | (simp only [PL]; omega)) only [PS, P1, P2, P3, P4, P5, P6, P7, P8, PA, PB, PC, Nat.reduceAdd, Nat.reduceSub, Nat.reduceMul, Nat.reduceLeDiff, Nat.reduceEqDiff, Nat.succ_ne_self, reduceCtorEq, Int.reduceToNat, Int.cast_ofNat_Int, Int.reduceEq, Int.reduceNe, Int.reduceLT, Int.reduceLE, C5, hw1]
  refine i_st ho 0 1 rfl rfl (by omega) (by simp) fun o hob _ => ?_
  have hob2 : objAt (h.set b5 o) ⟨b5, 0, none⟩ [.int .i64 (k + 1 : Nat)] := hob h rfl
  have hbut : but b5 h (h.set b5 o) := fun x hx => Heap.set_ne hx
  have hg2 : Heap.le g (h.set b5 o) := but.le hg hgb hbut
  have e1 : min (k + 1) w.length = k + 1 := by omega
  rw [e1] at hK
  generalize h.set b5 o = h2 at *
  have D5 : h2.cell ⟨b5, 0, none⟩ = some (.int .i64 (k + 1 : Nat)) := hob2.rules.2.1 (by simp)
  have D3 := cell_hmono hg2 hc
  have R2 := (hS.le hg2).rules1 (fun t => .string (str t)) (fun _ => rfl) default
  have hd : w.getD k default = w.getD k [] := rfl
  try simp (disch := first | omega | (simp only [PL]; omega)) only [PS, P1, P2, P3, P4, P5, P6, P7, P8, PA, PB, PC, Nat.reduceAdd, Nat.reduceSub, Nat.reduceMul, Nat.reduceLeDiff, Nat.reduceEqDiff, Nat.succ_ne_self, reduceCtorEq, Int.reduceToNat, Int.cast_ofNat_Int, Int.reduceEq, Int.reduceNe, Int.reduceLT, Int.reduceLE, D5, D3, R2, hw2, hd]
  exact hK h2 hbut hob2
def S189 (T : Heap) (N : Num) : Spec := fun args h K => ∃ g b6 b5 b3 v w, ∃ k : Nat, args = [.pointer (some ⟨b6, 0, none⟩)] ∧ Heap.le g h ∧ g b5 = none ∧ g.cell ⟨b6, 0, none⟩ = some (.func (.func (N.fid 188)) #[] #[.pointer (some ⟨b5, 0, none⟩), .pointer (some ⟨b3, 0, none⟩)]) ∧ g.cell ⟨b3, 0, none⟩ = some v ∧ Sl encT g v w ∧ w.length ≤ 10000000 ∧ (∀ x ∈ w, x.length ≤ 1000000) ∧ objAt h ⟨b5, 0, none⟩ [.int .i64 (k : Nat)] ∧ k ≤ w.length ∧ Heap.le T g ∧
  ∀ h' (z : Int), Heap.le g h' → objAt h' ⟨b5, 0, none⟩ [.int .i64 (min (k + 1) w.length : Nat)] → (∀ n, w.getD k [] = dec n → n ≤ 1000000000000000 → z = (n : Nat)) → K (.int .i64 z) h'
theorem F189_ok {N : Num} {Γ : Ctx} [GoodC Γ] {T : Heap} (H188 : Sat S188 (Γ 188)) (H190 : Sat (S190 T) (Γ 190)) : Sat (S189 T N) (SF N Γ F189) := by
  rintro _ h K ⟨g, b6, b5, b3, v, w, k, rfl, hg, hgb, hc6, hc, hS, hwl, hwx, ho, hk, hT, hK⟩
  refine i_fun rfl ?_
  simp only [F189, env0, List.map, List.length, List.replicate, List.cons_append, List.nil_append, Nat.reduceSub, Nat.reduceAdd]
  have C6 := cell_hmono hg hc6
  have hwk : (w.getD k []).length ≤ 1000000 := by
    by_cases hk2 : k < w.length
    · exact hwx _ (getD_mem [] hk2)
    · rw [List.getD_eq_getElem?_getD, List.getElem?_eq_none (by omega)]; simp
  try simp (disch := first | omega | (simp only [PL]; omega)) only [PS, P1, P2, P3, P4, P5, P6, P7, P8, PA, PB, PC, Nat.reduceAdd, Nat.reduceSub, Nat.reduceMul, Nat.reduceLeDiff, Nat.reduceEqDiff, Nat.succ_ne_self, reduceCtorEq, Int.reduceToNat, Int.cast_ofNat_Int, Int.reduceEq, Int.reduceNe, Int.reduceLT, Int.reduceLE, C6]
  refine i_cal H188 ⟨g, b5, b3, v, w, k, rfl, hg, hgb, hc, hS, hwl, ho, hk, fun h1 hbut ho1 => ?_⟩
  have hg1 : Heap.le g h1 := but.le hg hgb hbut
  try simp (disch := first | omega | (simp only [PL]; omega)) only [PS, P1, P2, P3, P4, P5, P6, P7, P8, PA, PB, PC, Nat.reduceAdd, Nat.reduceSub, Nat.reduceMul, Nat.reduceLeDiff, Nat.reduceEqDiff, Nat.succ_ne_self, reduceCtorEq, Int.reduceToNat, Int.cast_ofNat_Int, Int.reduceEq, Int.reduceNe, Int.reduceLT, Int.reduceLE]
  refine i_call H190 ⟨w.getD k [], rfl, hwk, hT.trans hg1, fun h2 z e hle2 hz he => ?_⟩
  rcases he with rfl | ⟨t, a, rfl⟩
  · try simp (disch := first | omega | (simp only [PL]; omega)) only [PS, P1, P2, P3, P4, P5, P6, P7, P8, PA, PB, PC, Nat.reduceAdd, Nat.reduceSub, Nat.reduceMul, Nat.reduceLeDiff, Nat.reduceEqDiff, Nat.succ_ne_self, reduceCtorEq, Int.reduceToNat, Int.cast_ofNat_Int, Int.reduceEq, Int.reduceNe, Int.reduceLT, Int.reduceLE]
    exact hK h2 z (hg1.trans hle2) (ho1.le hle2) fun n h1 h2 => (hz n h1 h2).1
  · try simp (disch := first | omega | (simp only [PL]; omega)) only [PS, P1, P2, P3, P4, P5, P6, P7, P8, PA, PB, PC, Nat.reduceAdd, Nat.reduceSub, Nat.reduceMul, Nat.reduceLeDiff, Nat.reduceEqDiff, Nat.succ_ne_self, reduceCtorEq, Int.reduceToNat, Int.cast_ofNat_Int, Int.reduceEq, Int.reduceNe, Int.reduceLT, Int.reduceLE]
    refine hK h2 (-2) (hg1.trans hle2) (ho1.le hle2) fun n h1 h2 => ?_
    have := (hz n h1 h2).2
    cases this
def kidxF (s : List UInt8) : Nat → Int
  | 0 => -1
  | i + 1 => if kn (i : Nat) = s then (i : Nat) else kidxF s i
theorem kidxF_kn {k : Int} (h1 : 0 ≤ k) (h2 : k ≤ 3) : kidxF (kn k) 4 = k := by
  have hk : k = 0 ∨ k = 1 ∨ k = 2 ∨ k = 3 := by omega
  rcases hk with rfl | rfl | rfl | rfl <;> rfl
theorem getD_min (w : List (List UInt8)) (k : Nat) : w.getD (min k w.length) [] = w.getD k [] := by
  by_cases h : k ≤ w.length
  · rw [Nat.min_eq_left h]
  · rw [Nat.min_eq_right (by omega), List.getD_eq_getElem?_getD, List.getD_eq_getElem?_getD, List.getElem?_eq_none (by omega), List.getElem?_eq_none (by omega)]
theorem min_succ (k l : Nat) : min (min k l + 1) l = min (k + 1) l := by omega
end Go.Cw
namespace Go.Cw
open Go
structure PaS (N : Num) (T g H : Heap) (b6 b5 b3 : Nat) (v : Value) (w : List (List UInt8)) (k : Nat) : Prop where
  hg : Heap.le g H
  hgb : g b5 = none
  c6 : g.cell ⟨b6, 0, none⟩ = some (.func (.func (N.fid 188)) #[] #[.pointer (some ⟨b5, 0, none⟩), .pointer (some ⟨b3, 0, none⟩)])
  c3 : g.cell ⟨b3, 0, none⟩ = some v
  S : Sl encT g v w
  wl : w.length ≤ 10000000
  wx : ∀ x ∈ w, x.length ≤ 1000000
  o : objAt H ⟨b5, 0, none⟩ [.int .i64 (min k w.length : Nat)]
  hT : Heap.le T g
section
variable {N : Num} {Γ : Ctx} {T g H H' : Heap} {b6 b5 b3 : Nat} {v : Value} {w : List (List UInt8)} {k : Nat}
theorem PaS.more (p : PaS N T g H b6 b5 b3 v w k) (hl : Heap.le H H') : PaS N T g H' b6 b5 b3 v w k := { p with hg := p.hg.trans hl, o := p.o.le hl }
theorem PaS.f6 (p : PaS N T g H b6 b5 b3 v w k) : H.cell ⟨b6, 0, none⟩ = some (.func (.func (N.fid 188)) #[] #[.pointer (some ⟨b5, 0, none⟩), .pointer (some ⟨b3, 0, none⟩)]) := cell_hmono p.hg p.c6
theorem i_word (p : PaS N T g H b6 b5 b3 v w k) (H188 : Sat S188 (Γ 188)) {K : Value → Heap → Prop} (hK : ∀ h', PaS N T g h' b6 b5 b3 v w (k + 1) → K (.string (str (w.getD k []))) h') : efW N Γ .cal [.func (.func (N.fid 188)) #[] #[.pointer (some ⟨b5, 0, none⟩), .pointer (some ⟨b3, 0, none⟩)]] H K := by
  refine i_cal H188 ⟨g, b5, b3, v, w, min k w.length, rfl, p.hg, p.hgb, p.c3, p.S, p.wl, p.o, Nat.min_le_right _ _, fun h1 hbut ho1 => ?_⟩
  rw [getD_min]
  rw [min_succ] at ho1
  exact hK h1 { p with hg := but.le p.hg p.hgb hbut, o := ho1 }
theorem i_num (p : PaS N T g H b6 b5 b3 v w k) (H189 : Sat (S189 T N) (Γ 189)) {K : Value → Heap → Prop} (hK : ∀ h' (z : Int), PaS N T g h' b6 b5 b3 v w (k + 1) → (∀ n, w.getD k [] = dec n → n ≤ 1000000000000000 → z = (n : Nat)) → K (.int .i64 z) h') : efW N Γ .cal [.func (.func (N.fid 189)) #[] #[.pointer (some ⟨b6, 0, none⟩)]] H K := by
  refine i_cal H189 ⟨g, b6, b5, b3, v, w, min k w.length, rfl, p.hg, p.hgb, p.c6, p.c3, p.S, p.wl, p.wx, p.o, Nat.min_le_right _ _, p.hT, fun h1 z hg1 ho1 hz => ?_⟩
  rw [getD_min] at hz
  rw [min_succ] at ho1
  exact hK h1 z { p with hg := hg1, o := ho1 } hz
end
theorem rule_read {r : Rl} {s : List UInt8} (h : ruleF r = 0) (hs : ruleText r = s) : pcs 32 s = ruleW r := by
  subst hs; exact ruleText_pcs (ruleF_zero.1 h).1.2.2
def S172 (T : Heap) (N : Num) : Spec := fun args h K => ∃ s, args = [.string (str s)] ∧ s.length ≤ 1000000 ∧ Heap.le T h ∧
  (∀ r : Rl, ruleF r = 0 → ruleText r = s → ∀ h', Heap.le h h' → K (.tuple #[aggR r, .nilIface]) h') ∧ ((∀ r : Rl, ruleF r = 0 → ruleText r ≠ s) → ∀ h', Heap.le h h' → K (.tuple #[aggR ⟨[], 0, 0, 0, 0, 0⟩, errV N 4]) h')
theorem F172_ok {N : Num} {Γ : Ctx} [GoodC Γ] {T : Heap} (H181 : Sat (S181 T) (Γ 181)) (H188 : Sat S188 (Γ 188)) (H189 : Sat (S189 T N) (Γ 189)) (H191 : Sat S191 (Γ 191)) (H185 : Sat S185 (Γ 185)) (H169 : Sat (S169 T N) (Γ 169)) : Sat (S172 T N) (SF N Γ F172) := by
  rintro _ h K ⟨s, rfl, hsl, hT, hK1, hK2⟩
  simp only [errV_succ, aggR] at hK1 hK2
  refine i_fun rfl ?_
  simp only [F172, env0, List.map, List.length, List.replicate, List.cons_append, List.nil_append, Nat.reduceSub, Nat.reduceAdd]
  have hrd : ∀ r : Rl, ruleF r = 0 → ruleText r = s → _ := fun r h1 h2 => rule_read h1 h2
  try simp (disch := first | omega | (simp only [PL]; omega)) only [PS, P1, P2, P3, P4, P5, P6, P7, P8, PA, PB, PC, Nat.reduceAdd, Nat.reduceSub, Nat.reduceMul, Nat.reduceLeDiff, Nat.reduceEqDiff, Nat.succ_ne_self, reduceCtorEq, Int.reduceToNat, Int.cast_ofNat_Int, Int.reduceEq, Int.reduceNe, Int.reduceLT, Int.reduceLE]
  refine i_call H181 ⟨s, 32, rfl, hsl, hT, fun v h1 ho1 => ?_⟩
  have hle1 := ho1.1
  have hS := ho1.sl (enc := encT) (fun _ => rfl)
  have hwm := pcs_mem_len (c := 32) (s := s)
  have hwl := pcs_len 32 s
  obtain ⟨w, hw⟩ : ∃ w, w = pcs 32 s := ⟨_, rfl⟩
  rw [← hw] at hS hwm hwl hrd
  have O1 := hS.one
  clear ho1
  try simp (disch := first | omega | (simp only [PL]; omega)) only [PS, P1, P2, P3, P4, P5, P6, P7, P8, PA, PB, PC, Nat.reduceAdd, Nat.reduceSub, Nat.reduceMul, Nat.reduceLeDiff, Nat.reduceEqDiff, Nat.succ_ne_self, reduceCtorEq, Int.reduceToNat, Int.cast_ofNat_Int, Int.reduceEq, Int.reduceNe, Int.reduceLT, Int.reduceLE]
  refine i_newO fun b3 h2 hle2 hb3 ho3 => ?_
  try simp (disch := first | omega | (simp only [PL]; omega)) only [PS, P1, P2, P3, P4, P5, P6, P7, P8, PA, PB, PC, Nat.reduceAdd, Nat.reduceSub, Nat.reduceMul, Nat.reduceLeDiff, Nat.reduceEqDiff, Nat.succ_ne_self, reduceCtorEq, Int.reduceToNat, Int.cast_ofNat_Int, Int.reduceEq, Int.reduceNe, Int.reduceLT, Int.reduceLE, O1.1, O1.2]
  have ho3' : objAt h2 ⟨b3, 0, none⟩ [.slice none 0 0] := ho3.le (fr_le h1 h2)
  refine i_st ho3' 0 1 (by rw [O1.2]; rfl) (by rw [O1.2]; simp [O1.1]) (by omega) (by simp) fun o3 hob3 _ => ?_
  have q3 : objAt (h2.set b3 o3) ⟨b3, 0, none⟩ [v] := by have := hob3 h2 rfl; simpa [O1.2] using this
  have hle3 : Heap.le h1 (h2.set b3 o3) := but.le (b := b3) hle2 hb3 fun x hx => Heap.set_ne hx
  generalize h2.set b3 o3 = h3 at *
  clear ho3 ho3' hob3
  try simp (disch := first | omega | (simp only [PL]; omega)) only [PS, P1, P2, P3, P4, P5, P6, P7, P8, PA, PB, PC, Nat.reduceAdd, Nat.reduceSub, Nat.reduceMul, Nat.reduceLeDiff, Nat.reduceEqDiff, Nat.succ_ne_self, reduceCtorEq, Int.reduceToNat, Int.cast_ofNat_Int, Int.reduceEq, Int.reduceNe, Int.reduceLT, Int.reduceLE]
  refine i_newO fun b5 h4 hle4 hb5 ho5 => ?_
  try simp (disch := first | omega | (simp only [PL]; omega)) only [PS, P1, P2, P3, P4, P5, P6, P7, P8, PA, PB, PC, Nat.reduceAdd, Nat.reduceSub, Nat.reduceMul, Nat.reduceLeDiff, Nat.reduceEqDiff, Nat.succ_ne_self, reduceCtorEq, Int.reduceToNat, Int.cast_ofNat_Int, Int.reduceEq, Int.reduceNe, Int.reduceLT, Int.reduceLE]
  refine i_st (ho5.le (fr_le h3 h4)) 0 1 rfl rfl (by omega) (Nat.le_refl 1) fun o5 hob5 _ => ?_
  have q5 : objAt (h4.set b5 o5) ⟨b5, 0, none⟩ [.int .i64 0] := hob5 h4 rfl
  have hle5 : Heap.le h3 (h4.set b5 o5) := but.le (b := b5) hle4 hb5 fun x hx => Heap.set_ne hx
  generalize h4.set b5 o5 = h5 at *
  clear ho5 hob5
  try simp (disch := first | omega | (simp only [PL]; omega)) only [PS, P1, P2, P3, P4, P5, P6, P7, P8, PA, PB, PC, Nat.reduceAdd, Nat.reduceSub, Nat.reduceMul, Nat.reduceLeDiff, Nat.reduceEqDiff, Nat.succ_ne_self, reduceCtorEq, Int.reduceToNat, Int.cast_ofNat_Int, Int.reduceEq, Int.reduceNe, Int.reduceLT, Int.reduceLE]
  refine i_newO fun b6 h6 hle6 hb6 ho6 => ?_
  try simp (disch := first | omega | (simp only [PL]; omega)) only [PS, P1, P2, P3, P4, P5, P6, P7, P8, PA, PB, PC, Nat.reduceAdd, Nat.reduceSub, Nat.reduceMul, Nat.reduceLeDiff, Nat.reduceEqDiff, Nat.succ_ne_self, reduceCtorEq, Int.reduceToNat, Int.cast_ofNat_Int, Int.reduceEq, Int.reduceNe, Int.reduceLT, Int.reduceLE]
  refine i_st (ho6.le (fr_le h5 h6)) 0 1 rfl rfl (by omega) (Nat.le_refl 1) fun o6 hob6 _ => ?_
  have q6 : objAt (h6.set b6 o6) ⟨b6, 0, none⟩ [.func (.func (N.fid 188)) #[] #[.pointer (some ⟨b5, 0, none⟩), .pointer (some ⟨b3, 0, none⟩)]] := hob6 h6 rfl
  have hle7 : Heap.le h5 (h6.set b6 o6) := but.le (b := b6) hle6 hb6 fun x hx => Heap.set_ne hx
  generalize h6.set b6 o6 = h7 at *
  clear ho6 hob6
  obtain ⟨g, hge⟩ : ∃ g : Heap, g = fun x => if x = b5 then none else h7 x := ⟨_, rfl⟩
  have hgH : Heap.le g h7 := by
    intro x o hx; rw [hge] at hx; dsimp only at hx; split at hx
    · cases hx
    · exact hx
  have h35 : b3 ≠ b5 := by
    rintro rfl
    obtain ⟨_, c, t, q, _⟩ := q3
    dsimp only at q
    rw [q] at hb5; cases hb5
  have h65 : b6 ≠ b5 := by
    rintro rfl
    obtain ⟨_, c, t, q, _⟩ := q5
    dsimp only at q
    rw [q] at hb6; cases hb6
  have hlow : ∀ x : Heap, Heap.le x h3 → x b5 = none → Heap.le x g := fun x hx hn y o hy => by
    rw [hge]; dsimp only
    rw [if_neg (by rintro rfl; rw [hn] at hy; cases hy)]
    exact hle7 y o (hle5 y o (hx y o hy))
  have hg1 : Heap.le h1 g := hlow h1 hle3 (le_none hle3 b5 hb5)
  have hg3 : Heap.le h3 g := hlow h3 (Heap.le.refl h3) hb5
  have hgh : Heap.le h g := hle1.trans hg1
  have p0 : PaS N T g h7 b6 b5 b3 v w 0 := by
    refine ⟨hgH, by rw [hge]; simp, ?_, (q3.le hg3).rules.2.1 (by simp), hS.le hg1, by omega, fun x hx => Nat.le_trans (hwm x hx) hsl, ?_, hT.trans hgh⟩
    · have := q6.rules.2.1 (by simp)
      rw [hge]
      simpa [Heap.cell, Heap.cells, h65] using this
    · have := q5.le hle7
      simpa using this
  clear hS hle1 hle2 hle3 hle4 hle5 hle6 hle7 q3 q5 q6 hlow hg1 hg3 hgH h35 h65 hge
  have e6 := p0.f6
  try simp (disch := first | omega | (simp only [PL]; omega)) only [PS, P1, P2, P3, P4, P5, P6, P7, P8, PA, PB, PC, Nat.reduceAdd, Nat.reduceSub, Nat.reduceMul, Nat.reduceLeDiff, Nat.reduceEqDiff, Nat.succ_ne_self, reduceCtorEq, Int.reduceToNat, Int.cast_ofNat_Int, Int.reduceEq, Int.reduceNe, Int.reduceLT, Int.reduceLE, e6]
  refine i_word p0 H188 fun h8 p1 => ?_
  have hw0 := p0.wx
  have hwk : ∀ k, (w.getD k []).length ≤ 1000000 := fun k => by
    by_cases hk2 : k < w.length
    · exact hw0 _ (getD_mem [] hk2)
    · rw [List.getD_eq_getElem?_getD, List.getElem?_eq_none (by omega)]; simp
  have htl := trimC_len 58 (w.getD 0 [])
  have hwk0 := hwk 0
  try simp (disch := first | omega | (simp only [PL]; omega)) only [PS, P1, P2, P3, P4, P5, P6, P7, P8, PA, PB, PC, Nat.reduceAdd, Nat.reduceSub, Nat.reduceMul, Nat.reduceLeDiff, Nat.reduceEqDiff, Nat.succ_ne_self, reduceCtorEq, Int.reduceToNat, Int.cast_ofNat_Int, Int.reduceEq, Int.reduceNe, Int.reduceLT, Int.reduceLE]
  refine i_call H191 ⟨w.getD 0 [], 58, rfl, hwk 0, fun h9 hle9 => ?_⟩
  have p1' := p1.more hle9
  have e6 := p1'.f6
  try simp (disch := first | omega | (simp only [PL]; omega)) only [PS, P1, P2, P3, P4, P5, P6, P7, P8, PA, PB, PC, Nat.reduceAdd, Nat.reduceSub, Nat.reduceMul, Nat.reduceLeDiff, Nat.reduceEqDiff, Nat.succ_ne_self, reduceCtorEq, Int.reduceToNat, Int.cast_ofNat_Int, Int.reduceEq, Int.reduceNe, Int.reduceLT, Int.reduceLE, e6]
  refine i_word p1' H188 fun h10 p2 => ?_
  try simp (disch := first | omega | (simp only [PL]; omega)) only [PS, P1, P2, P3, P4, P5, P6, P7, P8, PA, PB, PC, Nat.reduceAdd, Nat.reduceSub, Nat.reduceMul, Nat.reduceLeDiff, Nat.reduceEqDiff, Nat.succ_ne_self, reduceCtorEq, Int.reduceToNat, Int.cast_ofNat_Int, Int.reduceEq, Int.reduceNe, Int.reduceLT, Int.reduceLE]
  refine i_call H185 ⟨rfl, ?_⟩
  have hkv := fun (i : Nat) (hi : i < 4) (H : Heap) (ik : IntKind) => kinds_at (k := (i : Int)) (by omega) (by omega) H ik
  unfold kindsV at hkv ⊢
  try simp (disch := first | omega | (simp only [PL]; omega)) only [PS, P1, P2, P3, P4, P5, P6, P7, P8, PA, PB, PC, Nat.reduceAdd, Nat.reduceSub, Nat.reduceMul, Nat.reduceLeDiff, Nat.reduceEqDiff, Nat.succ_ne_self, reduceCtorEq, Int.reduceToNat, Int.cast_ofNat_Int, Int.reduceEq, Int.reduceNe, Int.reduceLT, Int.reduceLE]
  refine i_meet_blk (fun env H => PaS N T g H b6 b5 b3 v w 2 ∧ env = [some (.string (str s)), some (.agg #[.string (str []), .int .i64 0, .int .i64 0, .int .i64 0, .int .i64 0, .int .i64 0]), none, none, some (.agg #[.string (str (trimC 58 (w.getD 0 []))), .int .i64 (kidxF (w.getD 1 []) 4), .int .i64 0, .int .i64 0, .int .i64 (-1), .int .i64 0]), none, some (.pointer (some ⟨b6, 0, none⟩)), some (.func (.func (N.fid 189)) #[] #[.pointer (some ⟨b6, 0, none⟩)]), none, none, none, none, none, none, none, none, none, none, none, none, none, none, none, none, none, none, none, none, none, none, none, none]) ?_ ?_
  rotate_left
  · refine i_loop (fun i : Nat => [some (.string (str s)), some (.agg #[.string (str []), .int .i64 0, .int .i64 0, .int .i64 0, .int .i64 0, .int .i64 0]), none, none, some (.agg #[.string (str (trimC 58 (w.getD 0 []))), .int .i64 (kidxF (w.getD 1 []) i), .int .i64 0, .int .i64 0, .int .i64 (-1), .int .i64 0]), none, some (.pointer (some ⟨b6, 0, none⟩)), some (.func (.func (N.fid 189)) #[] #[.pointer (some ⟨b6, 0, none⟩)]), some (.string (str (w.getD 1 []))), none, none, none, none, none, none, none, none, none, none, some (.agg #[.string (str [97, 110, 121]), .string (str [105, 116, 101, 109]), .string (str [99, 97, 115, 101]), .string (str [112, 97, 108, 108, 101, 116])]), some (.int .i64 (i : Nat)), none, none, none, none, none, none, none, none, none, none, none]) (fun i H => PaS N T g H b6 b5 b3 v w 2 ∧ i ≤ 4) (fun i => 4 - i) 0 (by try simp only [Pe, and_true, true_and, and_self]; simp [kidxF]) ⟨p2, by omega⟩ ?_
    clear p0 p1 p1' p2
    rintro i H ⟨p, hi⟩
    have hwi : IntKind.i64.wrap ((i : Int) + 1) = ((i + 1 : Nat) : Int) := by rw [w64 (by omega) (by omega)]; omega
    try simp (disch := first | omega | (simp only [PL]; omega)) only [PS, P1, P2, P3, P4, P5, P6, P7, P8, PA, PB, PC, Nat.reduceAdd, Nat.reduceSub, Nat.reduceMul, Nat.reduceLeDiff, Nat.reduceEqDiff, Nat.succ_ne_self, reduceCtorEq, Int.reduceToNat, Int.cast_ofNat_Int, Int.reduceEq, Int.reduceNe, Int.reduceLT, Int.reduceLE]
    refine i_cond (fun c => ?_) (fun c => ?_)
    rotate_left
    · have : i = 4 := by omega
      subst this
      try simp (disch := first | omega | (simp only [PL]; omega)) only [PS, P1, P2, P3, P4, P5, P6, P7, P8, PA, PB, PC, Nat.reduceAdd, Nat.reduceSub, Nat.reduceMul, Nat.reduceLeDiff, Nat.reduceEqDiff, Nat.succ_ne_self, reduceCtorEq, Int.reduceToNat, Int.cast_ofNat_Int, Int.reduceEq, Int.reduceNe, Int.reduceLT, Int.reduceLE]
      exact k_meet _ (by try simp only [Pe, and_true, true_and, and_self]) ⟨p, rfl⟩
    have hi2 : i < 4 := by omega
    have hki := hkv i hi2
    try simp (disch := first | omega | (simp only [PL]; omega)) only [PS, P1, P2, P3, P4, P5, P6, P7, P8, PA, PB, PC, Nat.reduceAdd, Nat.reduceSub, Nat.reduceMul, Nat.reduceLeDiff, Nat.reduceEqDiff, Nat.succ_ne_self, reduceCtorEq, Int.reduceToNat, Int.cast_ofNat_Int, Int.reduceEq, Int.reduceNe, Int.reduceLT, Int.reduceLE, hki]
    refine i_cond (fun c2 => ?_) (fun c2 => ?_)
    · have e : kidxF (w.getD 1 []) (i + 1) = (i : Nat) := by simp only [kidxF, if_pos c2]
      try simp (disch := first | omega | (simp only [PL]; omega)) only [PS, P1, P2, P3, P4, P5, P6, P7, P8, PA, PB, PC, Nat.reduceAdd, Nat.reduceSub, Nat.reduceMul, Nat.reduceLeDiff, Nat.reduceEqDiff, Nat.succ_ne_self, reduceCtorEq, Int.reduceToNat, Int.cast_ofNat_Int, Int.reduceEq, Int.reduceNe, Int.reduceLT, Int.reduceLE, hwi]
      exact k_loop (i + 1) (by omega) (by rw [e]; try simp only [Pe, and_true, true_and, and_self]) ⟨p, by omega⟩
    · have e : kidxF (w.getD 1 []) (i + 1) = kidxF (w.getD 1 []) i := by simp only [kidxF, if_neg c2]
      try simp (disch := first | omega | (simp only [PL]; omega)) only [PS, P1, P2, P3, P4, P5, P6, P7, P8, PA, PB, PC, Nat.reduceAdd, Nat.reduceSub, Nat.reduceMul, Nat.reduceLeDiff, Nat.reduceEqDiff, Nat.succ_ne_self, reduceCtorEq, Int.reduceToNat, Int.cast_ofNat_Int, Int.reduceEq, Int.reduceNe, Int.reduceLT, Int.reduceLE, hwi]
      exact k_loop (i + 1) (by omega) (by rw [e]; try simp only [Pe, and_true, true_and, and_self]) ⟨p, by omega⟩
  clear p0 p1 p1' p2
  rintro env H ⟨p2, rfl⟩
  try simp (disch := first | omega | (simp only [PL]; omega)) only [PS, P1, P2, P3, P4, P5, P6, P7, P8, PA, PB, PC, Nat.reduceAdd, Nat.reduceSub, Nat.reduceMul, Nat.reduceLeDiff, Nat.reduceEqDiff, Nat.succ_ne_self, reduceCtorEq, Int.reduceToNat, Int.cast_ofNat_Int, Int.reduceEq, Int.reduceNe, Int.reduceLT, Int.reduceLE]
  refine i_num p2 H189 fun h11 z2 p3 hz2 => ?_
  have e6 := p3.f6
  try simp (disch := first | omega | (simp only [PL]; omega)) only [PS, P1, P2, P3, P4, P5, P6, P7, P8, PA, PB, PC, Nat.reduceAdd, Nat.reduceSub, Nat.reduceMul, Nat.reduceLeDiff, Nat.reduceEqDiff, Nat.succ_ne_self, reduceCtorEq, Int.reduceToNat, Int.cast_ofNat_Int, Int.reduceEq, Int.reduceNe, Int.reduceLT, Int.reduceLE, e6]
  refine i_word p3 H188 fun h12 p4 => ?_
  try simp (disch := first | omega | (simp only [PL]; omega)) only [PS, P1, P2, P3, P4, P5, P6, P7, P8, PA, PB, PC, Nat.reduceAdd, Nat.reduceSub, Nat.reduceMul, Nat.reduceLeDiff, Nat.reduceEqDiff, Nat.succ_ne_self, reduceCtorEq, Int.reduceToNat, Int.cast_ofNat_Int, Int.reduceEq, Int.reduceNe, Int.reduceLT, Int.reduceLE]
  refine i_num p4 H189 fun h13 z4 p5 hz4 => ?_
  have e6 := p5.f6
  try simp (disch := first | omega | (simp only [PL]; omega)) only [PS, P1, P2, P3, P4, P5, P6, P7, P8, PA, PB, PC, Nat.reduceAdd, Nat.reduceSub, Nat.reduceMul, Nat.reduceLeDiff, Nat.reduceEqDiff, Nat.succ_ne_self, reduceCtorEq, Int.reduceToNat, Int.cast_ofNat_Int, Int.reduceEq, Int.reduceNe, Int.reduceLT, Int.reduceLE, e6]
  refine i_word p5 H188 fun h14 p6 => ?_
  try simp (disch := first | omega | (simp only [PL]; omega)) only [PS, P1, P2, P3, P4, P5, P6, P7, P8, PA, PB, PC, Nat.reduceAdd, Nat.reduceSub, Nat.reduceMul, Nat.reduceLeDiff, Nat.reduceEqDiff, Nat.succ_ne_self, reduceCtorEq, Int.reduceToNat, Int.cast_ofNat_Int, Int.reduceEq, Int.reduceNe, Int.reduceLT, Int.reduceLE]
  have fin : ∀ (wo wi : Int) (H : Heap), Heap.le g H → (∀ r : Rl, ruleF r = 0 → ruleText r = s → wo = r.wout ∧ wi = r.wthn) → ∀ r : Rl, ruleF r = 0 → ruleText r = s → r = ⟨trimC 58 (w.getD 0 []), kidxF (w.getD 1 []) 4, z2, z4, wo, wi⟩ := by
    intro wo wi H hH hwo r hr ht
    obtain ⟨e1, e2⟩ := hwo r hr ht
    have hww := hrd r hr ht
    obtain ⟨⟨_, _, _⟩, hb, _⟩ := ruleF_zero.1 hr
    unfold Rl.bound at hb
    rw [hww] at hz2 hz4 ⊢
    simp only [ruleW, List.cons_append, List.nil_append, List.getD_cons_zero, List.getD_cons_succ] at hz2 hz4 ⊢
    have f2 := hz2 _ rfl (by omega)
    have f4 := hz4 _ rfl (by omega)
    have g2 : z2 = r.first := by omega
    have g4 : z4 = r.thn := by omega
    rw [trimC_snoc, kidxF_kn (by omega) (by omega), e1, e2, g2, g4]
  refine i_cond (fun c5 => ?_) (fun c5 => ?_)
  · try simp (disch := first | omega | (simp only [PL]; omega)) only [PS, P1, P2, P3, P4, P5, P6, P7, P8, PA, PB, PC, Nat.reduceAdd, Nat.reduceSub, Nat.reduceMul, Nat.reduceLeDiff, Nat.reduceEqDiff, Nat.succ_ne_self, reduceCtorEq, Int.reduceToNat, Int.cast_ofNat_Int, Int.reduceEq, Int.reduceNe, Int.reduceLT, Int.reduceLE]
    refine i_num p6 H189 fun h15 z6 p7 hz6 => ?_
    have e6 := p7.f6
    try simp (disch := first | omega | (simp only [PL]; omega)) only [PS, P1, P2, P3, P4, P5, P6, P7, P8, PA, PB, PC, Nat.reduceAdd, Nat.reduceSub, Nat.reduceMul, Nat.reduceLeDiff, Nat.reduceEqDiff, Nat.succ_ne_self, reduceCtorEq, Int.reduceToNat, Int.cast_ofNat_Int, Int.reduceEq, Int.reduceNe, Int.reduceLT, Int.reduceLE, e6]
    refine i_word p7 H188 fun h16 p8 => ?_
    try simp (disch := first | omega | (simp only [PL]; omega)) only [PS, P1, P2, P3, P4, P5, P6, P7, P8, PA, PB, PC, Nat.reduceAdd, Nat.reduceSub, Nat.reduceMul, Nat.reduceLeDiff, Nat.reduceEqDiff, Nat.succ_ne_self, reduceCtorEq, Int.reduceToNat, Int.cast_ofNat_Int, Int.reduceEq, Int.reduceNe, Int.reduceLT, Int.reduceLE]
    refine i_num p8 H189 fun h17 z8 p9 hz8 => ?_
    have hfin := fin z6 z8 h17 p9.hg fun r hr ht => by
      have hww := hrd r hr ht
      obtain ⟨⟨_, _, _⟩, hb, _⟩ := ruleF_zero.1 hr
      unfold Rl.bound at hb
      rw [hww] at hz6 hz8 c5
      by_cases hwo : 0 ≤ r.wout
      · simp only [ruleW, if_pos hwo, List.cons_append, List.nil_append, List.getD_cons_zero, List.getD_cons_succ] at hz6 hz8
        have f6 := hz6 _ rfl (by omega)
        have f8 := hz8 _ rfl (by omega)
        omega
      · simp only [ruleW, if_neg hwo, List.cons_append, List.nil_append, List.getD_cons_zero, List.getD_cons_succ] at c5
        exact absurd c5 (by decide)
    try simp (disch := first | omega | (simp only [PL]; omega)) only [PS, P1, P2, P3, P4, P5, P6, P7, P8, PA, PB, PC, Nat.reduceAdd, Nat.reduceSub, Nat.reduceMul, Nat.reduceLeDiff, Nat.reduceEqDiff, Nat.succ_ne_self, reduceCtorEq, Int.reduceToNat, Int.cast_ofNat_Int, Int.reduceEq, Int.reduceNe, Int.reduceLT, Int.reduceLE]
    refine i_call H169 ⟨⟨trimC 58 (w.getD 0 []), kidxF (w.getD 1 []) 4, z2, z4, z6, z8⟩, rfl, by dsimp only; omega, p9.hT.trans p9.hg, fun hb h18 hle18 => ?_, fun hb h18 hle18 => ?_⟩
    · obtain ⟨f, hf⟩ : ∃ f, ruleF ⟨trimC 58 (w.getD 0 []), kidxF (w.getD 1 []) 4, z2, z4, z6, z8⟩ = f + 1 := Nat.exists_eq_succ_of_ne_zero hb
      rw [hf]
      try simp (disch := first | omega | (simp only [PL]; omega)) only [PS, P1, P2, P3, P4, P5, P6, P7, P8, PA, PB, PC, Nat.reduceAdd, Nat.reduceSub, Nat.reduceMul, Nat.reduceLeDiff, Nat.reduceEqDiff, Nat.succ_ne_self, reduceCtorEq, Int.reduceToNat, Int.cast_ofNat_Int, Int.reduceEq, Int.reduceNe, Int.reduceLT, Int.reduceLE, errV_succ]
      refine hK2 (fun r hr ht => ?_) h18 (hgh.trans (p9.hg.trans hle18))
      rw [hfin r hr ht] at hr
      exact hb hr
    · try simp (disch := first | omega | (simp only [PL]; omega)) only [PS, P1, P2, P3, P4, P5, P6, P7, P8, PA, PB, PC, Nat.reduceAdd, Nat.reduceSub, Nat.reduceMul, Nat.reduceLeDiff, Nat.reduceEqDiff, Nat.succ_ne_self, reduceCtorEq, Int.reduceToNat, Int.cast_ofNat_Int, Int.reduceEq, Int.reduceNe, Int.reduceLT, Int.reduceLE]
      refine i_cond (fun c9 => ?_) (fun c9 => ?_)
      · try simp (disch := first | omega | (simp only [PL]; omega)) only [PS, P1, P2, P3, P4, P5, P6, P7, P8, PA, PB, PC, Nat.reduceAdd, Nat.reduceSub, Nat.reduceMul, Nat.reduceLeDiff, Nat.reduceEqDiff, Nat.succ_ne_self, reduceCtorEq, Int.reduceToNat, Int.cast_ofNat_Int, Int.reduceEq, Int.reduceNe, Int.reduceLT, Int.reduceLE]
        refine hK2 (fun r hr ht => ?_) h18 (hgh.trans (p9.hg.trans hle18))
        rw [hfin r hr ht] at ht
        exact c9 ht
      · try simp (disch := first | omega | (simp only [PL]; omega)) only [PS, P1, P2, P3, P4, P5, P6, P7, P8, PA, PB, PC, Nat.reduceAdd, Nat.reduceSub, Nat.reduceMul, Nat.reduceLeDiff, Nat.reduceEqDiff, Nat.succ_ne_self, reduceCtorEq, Int.reduceToNat, Int.cast_ofNat_Int, Int.reduceEq, Int.reduceNe, Int.reduceLT, Int.reduceLE]
        exact hK1 _ hb (Decidable.not_not.1 c9) h18 (hgh.trans (p9.hg.trans hle18))
  · try simp (disch := first | omega | (simp only [PL]; omega)) only [PS, P1, P2, P3, P4, P5, P6, P7, P8, PA, PB, PC, Nat.reduceAdd, Nat.reduceSub, Nat.reduceMul, Nat.reduceLeDiff, Nat.reduceEqDiff, Nat.succ_ne_self, reduceCtorEq, Int.reduceToNat, Int.cast_ofNat_Int, Int.reduceEq, Int.reduceNe, Int.reduceLT, Int.reduceLE]
    refine i_num p6 H189 fun h15 z6 p7 hz6 => ?_
    have hfin := fin (-1) z6 h15 p7.hg fun r hr ht => by
      have hww := hrd r hr ht
      obtain ⟨⟨_, _, _⟩, hb, _⟩ := ruleF_zero.1 hr
      unfold Rl.bound at hb
      rw [hww] at hz6 c5
      by_cases hwo : 0 ≤ r.wout
      · simp only [ruleW, if_pos hwo, List.cons_append, List.nil_append, List.getD_cons_zero, List.getD_cons_succ] at c5
        exact absurd rfl c5
      · simp only [ruleW, if_neg hwo, List.cons_append, List.nil_append, List.getD_cons_zero, List.getD_cons_succ] at hz6
        have f6 := hz6 _ rfl (by omega)
        omega
    try simp (disch := first | omega | (simp only [PL]; omega)) only [PS, P1, P2, P3, P4, P5, P6, P7, P8, PA, PB, PC, Nat.reduceAdd, Nat.reduceSub, Nat.reduceMul, Nat.reduceLeDiff, Nat.reduceEqDiff, Nat.succ_ne_self, reduceCtorEq, Int.reduceToNat, Int.cast_ofNat_Int, Int.reduceEq, Int.reduceNe, Int.reduceLT, Int.reduceLE]
    refine i_call H169 ⟨⟨trimC 58 (w.getD 0 []), kidxF (w.getD 1 []) 4, z2, z4, -1, z6⟩, rfl, by dsimp only; omega, p7.hT.trans p7.hg, fun hb h18 hle18 => ?_, fun hb h18 hle18 => ?_⟩
    · obtain ⟨f, hf⟩ : ∃ f, ruleF ⟨trimC 58 (w.getD 0 []), kidxF (w.getD 1 []) 4, z2, z4, -1, z6⟩ = f + 1 := Nat.exists_eq_succ_of_ne_zero hb
      rw [hf]
      try simp (disch := first | omega | (simp only [PL]; omega)) only [PS, P1, P2, P3, P4, P5, P6, P7, P8, PA, PB, PC, Nat.reduceAdd, Nat.reduceSub, Nat.reduceMul, Nat.reduceLeDiff, Nat.reduceEqDiff, Nat.succ_ne_self, reduceCtorEq, Int.reduceToNat, Int.cast_ofNat_Int, Int.reduceEq, Int.reduceNe, Int.reduceLT, Int.reduceLE, errV_succ]
      refine hK2 (fun r hr ht => ?_) h18 (hgh.trans (p7.hg.trans hle18))
      rw [hfin r hr ht] at hr
      exact hb hr
    · try simp (disch := first | omega | (simp only [PL]; omega)) only [PS, P1, P2, P3, P4, P5, P6, P7, P8, PA, PB, PC, Nat.reduceAdd, Nat.reduceSub, Nat.reduceMul, Nat.reduceLeDiff, Nat.reduceEqDiff, Nat.succ_ne_self, reduceCtorEq, Int.reduceToNat, Int.cast_ofNat_Int, Int.reduceEq, Int.reduceNe, Int.reduceLT, Int.reduceLE]
      refine i_cond (fun c9 => ?_) (fun c9 => ?_)
      · try simp (disch := first | omega | (simp only [PL]; omega)) only [PS, P1, P2, P3, P4, P5, P6, P7, P8, PA, PB, PC, Nat.reduceAdd, Nat.reduceSub, Nat.reduceMul, Nat.reduceLeDiff, Nat.reduceEqDiff, Nat.succ_ne_self, reduceCtorEq, Int.reduceToNat, Int.cast_ofNat_Int, Int.reduceEq, Int.reduceNe, Int.reduceLT, Int.reduceLE]
        refine hK2 (fun r hr ht => ?_) h18 (hgh.trans (p7.hg.trans hle18))
        rw [hfin r hr ht] at ht
        exact c9 ht
      · try simp (disch := first | omega | (simp only [PL]; omega)) only [PS, P1, P2, P3, P4, P5, P6, P7, P8, PA, PB, PC, Nat.reduceAdd, Nat.reduceSub, Nat.reduceMul, Nat.reduceLeDiff, Nat.reduceEqDiff, Nat.succ_ne_self, reduceCtorEq, Int.reduceToNat, Int.cast_ofNat_Int, Int.reduceEq, Int.reduceNe, Int.reduceLT, Int.reduceLE]
        exact hK1 _ hb (Decidable.not_not.1 c9) h18 (hgh.trans (p7.hg.trans hle18))
end Go.Cw
namespace Go.Cw
open Go
def r290 : Rl := ⟨[97], 0, 1, 2, -1, 5⟩
theorem good_290 : ruleF r290 = 0 := by decide
theorem text_290 : ruleText r290 = [97, 58, 32, 97, 110, 121, 32, 49, 32, 116, 104, 101, 110, 32, 50, 32, 119, 105, 116, 104, 105, 110, 32, 53] := by
  have d1 : dec 1 = [49] := by rw [dec_lt (by omega)]; decide
  have d2 : dec 2 = [50] := by rw [dec_lt (by omega)]; decide
  have d5 : dec 5 = [53] := by rw [dec_lt (by omega)]; decide
  rw [ruleText_eq]
  have e : r290.name ++ [58, 32] ++ kn r290.kind ++ [32] ++ dec r290.first.toNat ++ [32, 116, 104, 101, 110, 32] ++ dec r290.thn.toNat ++ (if 0 ≤ r290.wout then [32, 119, 105, 116, 104, 111, 117, 116, 32] ++ dec r290.wout.toNat else []) ++ ([32, 119, 105, 116, 104, 105, 110, 32] ++ dec r290.wthn.toNat) = [97] ++ [58, 32] ++ [97, 110, 121] ++ [32] ++ dec 1 ++ [32, 116, 104, 101, 110, 32] ++ dec 2 ++ [] ++ ([32, 119, 105, 116, 104, 105, 110, 32] ++ dec 5) := rfl
  rw [e, d1, d2, d5]; rfl
theorem ruleText_len {r : Rl} (h : ruleF r = 0) : (ruleText r).length ≤ 1000 := by
  obtain ⟨⟨_, l12, _⟩, hb, _⟩ := ruleF_zero.1 h
  unfold Rl.bound at hb
  have l1 := kn_len r.kind
  have l2 := dec_len 19 (n := r.first.toNat) (by omega) (by omega)
  have l3 := dec_len 19 (n := r.thn.toNat) (by omega) (by omega)
  have l4 := dec_len 19 (n := r.wthn.toNat) (by omega) (by omega)
  have l5 := dec_len 19 (n := r.wout.toNat) (by omega) (by omega)
  rw [ruleText_eq]
  split
  · simp only [List.length_append, List.length_cons, List.length_nil]; omega
  · simp only [List.length_append, List.length_cons, List.length_nil]; omega
def S290 (T : Heap) : Spec := fun args h K => ∃ r s, args = [aggR r, .string (str s)] ∧ r.name.length ≤ 9223372036854775807 ∧ Heap.le T h ∧ ∀ h', Heap.le h h' → K (.bool true) h'
theorem F290_ok {N : Num} {Γ : Ctx} [GoodC Γ] {T : Heap} (H172 : Sat (S172 T N) (Γ 172)) (H169 : Sat (S169 T N) (Γ 169)) (H170 : Sat (S170 N) (Γ 170)) : Sat (S290 T) (SF N Γ F290) := by
  rintro _ h K ⟨r, s, rfl, hnm, hT, hK⟩
  refine i_fun rfl ?_
  simp only [F290, env0, List.map, List.length, List.replicate, List.cons_append, List.nil_append, Nat.reduceSub, Nat.reduceAdd, aggR]
  try simp (disch := first | omega | (simp only [PL]; omega)) only [PS, P1, P2, P3, P4, P5, P6, P7, P8, PA, PB, PC, Nat.reduceAdd, Nat.reduceSub, Nat.reduceMul, Nat.reduceLeDiff, Nat.reduceEqDiff, Nat.succ_ne_self, reduceCtorEq, Int.reduceToNat, Int.cast_ofNat_Int, Int.reduceEq, Int.reduceNe, Int.reduceLT, Int.reduceLE]
  refine i_cond (fun c1 => ?_) (fun c1 => ?_)
  · try simp (disch := first | omega | (simp only [PL]; omega)) only [PS, P1, P2, P3, P4, P5, P6, P7, P8, PA, PB, PC, Nat.reduceAdd, Nat.reduceSub, Nat.reduceMul, Nat.reduceLeDiff, Nat.reduceEqDiff, Nat.succ_ne_self, reduceCtorEq, Int.reduceToNat, Int.cast_ofNat_Int, Int.reduceEq, Int.reduceNe, Int.reduceLT, Int.reduceLE]
    exact hK h (Heap.le.refl h)
  have hsl : s.length ≤ 200 := by omega
  have hnl : r.name.length ≤ 100 := by omega
  try simp (disch := first | omega | (simp only [PL]; omega)) only [PS, P1, P2, P3, P4, P5, P6, P7, P8, PA, PB, PC, Nat.reduceAdd, Nat.reduceSub, Nat.reduceMul, Nat.reduceLeDiff, Nat.reduceEqDiff, Nat.succ_ne_self, reduceCtorEq, Int.reduceToNat, Int.cast_ofNat_Int, Int.reduceEq, Int.reduceNe, Int.reduceLT, Int.reduceLE]
  refine i_call H172 ⟨[97, 58, 32, 97, 110, 121, 32, 49, 32, 116, 104, 101, 110, 32, 50, 32, 119, 105, 116, 104, 105, 110, 32, 53], rfl, by decide, hT, fun q hq ht h1 hle1 => ?_, fun hno => absurd text_290 (hno r290 good_290)⟩
  obtain rfl : q = r290 := ruleText_inj hq good_290 (ht.trans text_290.symm)
  simp only [aggR, r290]
  have tail : ∀ H, Heap.le h H → ∀ (u : Rl), ruleF u = 0 → ruleText u = s → u.name.length ≤ 1000 := fun H hH u hu hut => by
    have := (ruleF_zero.1 hu).1.2.1
    omega
  try simp (disch := first | omega | (simp only [PL]; omega)) only [PS, P1, P2, P3, P4, P5, P6, P7, P8, PA, PB, PC, Nat.reduceAdd, Nat.reduceSub, Nat.reduceMul, Nat.reduceLeDiff, Nat.reduceEqDiff, Nat.succ_ne_self, reduceCtorEq, Int.reduceToNat, Int.cast_ofNat_Int, Int.reduceEq, Int.reduceNe, Int.reduceLT, Int.reduceLE]
  by_cases hb : ruleF r = 0
  · refine i_call H169 ⟨r, rfl, by omega, hT.trans hle1, fun hn => absurd hb hn, fun _ h2 hle2 => ?_⟩
    have hle02 := hle1.trans hle2
    have hrl := ruleText_len hb
    try simp (disch := first | omega | (simp only [PL]; omega)) only [PS, P1, P2, P3, P4, P5, P6, P7, P8, PA, PB, PC, Nat.reduceAdd, Nat.reduceSub, Nat.reduceMul, Nat.reduceLeDiff, Nat.reduceEqDiff, Nat.succ_ne_self, reduceCtorEq, Int.reduceToNat, Int.cast_ofNat_Int, Int.reduceEq, Int.reduceNe, Int.reduceLT, Int.reduceLE]
    refine i_call H172 ⟨ruleText r, rfl, by omega, hT.trans hle02, fun q hq ht h3 hle3 => ?_, fun hno => absurd rfl (hno r hb)⟩
    obtain rfl : q = r := ruleText_inj hq hb ht
    have hle03 := hle02.trans hle3
    have sm := fun h bb => aggR_same h q bb
    simp only [aggR] at sm ⊢
    try simp (disch := first | omega | (simp only [PL]; omega)) only [PS, P1, P2, P3, P4, P5, P6, P7, P8, PA, PB, PC, Nat.reduceAdd, Nat.reduceSub, Nat.reduceMul, Nat.reduceLeDiff, Nat.reduceEqDiff, Nat.succ_ne_self, reduceCtorEq, Int.reduceToNat, Int.cast_ofNat_Int, Int.reduceEq, Int.reduceNe, Int.reduceLT, Int.reduceLE, sm]
    refine i_call H172 ⟨s, rfl, by omega, hT.trans hle03, fun u hu hut h4 hle4 => ?_, fun hno h4 hle4 => ?_⟩
    · simp only [aggR]
      have hul := tail h (Heap.le.refl h) u hu hut
      try simp (disch := first | omega | (simp only [PL]; omega)) only [PS, P1, P2, P3, P4, P5, P6, P7, P8, PA, PB, PC, Nat.reduceAdd, Nat.reduceSub, Nat.reduceMul, Nat.reduceLeDiff, Nat.reduceEqDiff, Nat.succ_ne_self, reduceCtorEq, Int.reduceToNat, Int.cast_ofNat_Int, Int.reduceEq, Int.reduceNe, Int.reduceLT, Int.reduceLE]
      refine i_call H169 ⟨u, rfl, by omega, hT.trans (hle03.trans hle4), fun hn => absurd hu hn, fun _ h5 hle5 => ?_⟩
      rw [hut]
      try simp (disch := first | omega | (simp only [PL]; omega)) only [PS, P1, P2, P3, P4, P5, P6, P7, P8, PA, PB, PC, Nat.reduceAdd, Nat.reduceSub, Nat.reduceMul, Nat.reduceLeDiff, Nat.reduceEqDiff, Nat.succ_ne_self, reduceCtorEq, Int.reduceToNat, Int.cast_ofNat_Int, Int.reduceEq, Int.reduceNe, Int.reduceLT, Int.reduceLE]
      refine i_call H170 ⟨u, rfl, by omega, ?_⟩
      rw [hu]
      try simp (disch := first | omega | (simp only [PL]; omega)) only [PS, P1, P2, P3, P4, P5, P6, P7, P8, PA, PB, PC, Nat.reduceAdd, Nat.reduceSub, Nat.reduceMul, Nat.reduceLeDiff, Nat.reduceEqDiff, Nat.succ_ne_self, reduceCtorEq, Int.reduceToNat, Int.cast_ofNat_Int, Int.reduceEq, Int.reduceNe, Int.reduceLT, Int.reduceLE, errV_zero]
      exact hK h5 (hle03.trans (hle4.trans hle5))
    · simp only [aggR]
      try simp (disch := first | omega | (simp only [PL]; omega)) only [PS, P1, P2, P3, P4, P5, P6, P7, P8, PA, PB, PC, Nat.reduceAdd, Nat.reduceSub, Nat.reduceMul, Nat.reduceLeDiff, Nat.reduceEqDiff, Nat.succ_ne_self, reduceCtorEq, Int.reduceToNat, Int.cast_ofNat_Int, Int.reduceEq, Int.reduceNe, Int.reduceLT, Int.reduceLE, errV_succ]
      exact hK h4 (hle03.trans hle4)
  · obtain ⟨f, hf⟩ := Nat.exists_eq_succ_of_ne_zero hb
    refine i_call H169 ⟨r, rfl, by omega, hT.trans hle1, fun _ h2 hle2 => ?_, fun hn => absurd hn hb⟩
    have hle02 := hle1.trans hle2
    rw [hf]
    try simp (disch := first | omega | (simp only [PL]; omega)) only [PS, P1, P2, P3, P4, P5, P6, P7, P8, PA, PB, PC, Nat.reduceAdd, Nat.reduceSub, Nat.reduceMul, Nat.reduceLeDiff, Nat.reduceEqDiff, Nat.succ_ne_self, reduceCtorEq, Int.reduceToNat, Int.cast_ofNat_Int, Int.reduceEq, Int.reduceNe, Int.reduceLT, Int.reduceLE, errV_succ]
    refine i_call H172 ⟨s, rfl, by omega, hT.trans hle02, fun u hu hut h4 hle4 => ?_, fun hno h4 hle4 => ?_⟩
    · simp only [aggR]
      have hul := tail h (Heap.le.refl h) u hu hut
      try simp (disch := first | omega | (simp only [PL]; omega)) only [PS, P1, P2, P3, P4, P5, P6, P7, P8, PA, PB, PC, Nat.reduceAdd, Nat.reduceSub, Nat.reduceMul, Nat.reduceLeDiff, Nat.reduceEqDiff, Nat.succ_ne_self, reduceCtorEq, Int.reduceToNat, Int.cast_ofNat_Int, Int.reduceEq, Int.reduceNe, Int.reduceLT, Int.reduceLE]
      refine i_call H169 ⟨u, rfl, by omega, hT.trans (hle02.trans hle4), fun hn => absurd hu hn, fun _ h5 hle5 => ?_⟩
      rw [hut]
      try simp (disch := first | omega | (simp only [PL]; omega)) only [PS, P1, P2, P3, P4, P5, P6, P7, P8, PA, PB, PC, Nat.reduceAdd, Nat.reduceSub, Nat.reduceMul, Nat.reduceLeDiff, Nat.reduceEqDiff, Nat.succ_ne_self, reduceCtorEq, Int.reduceToNat, Int.cast_ofNat_Int, Int.reduceEq, Int.reduceNe, Int.reduceLT, Int.reduceLE]
      refine i_call H170 ⟨u, rfl, by omega, ?_⟩
      rw [hu]
      try simp (disch := first | omega | (simp only [PL]; omega)) only [PS, P1, P2, P3, P4, P5, P6, P7, P8, PA, PB, PC, Nat.reduceAdd, Nat.reduceSub, Nat.reduceMul, Nat.reduceLeDiff, Nat.reduceEqDiff, Nat.succ_ne_self, reduceCtorEq, Int.reduceToNat, Int.cast_ofNat_Int, Int.reduceEq, Int.reduceNe, Int.reduceLT, Int.reduceLE, errV_zero]
      exact hK h5 (hle02.trans (hle4.trans hle5))
    · simp only [aggR]
      try simp (disch := first | omega | (simp only [PL]; omega)) only [PS, P1, P2, P3, P4, P5, P6, P7, P8, PA, PB, PC, Nat.reduceAdd, Nat.reduceSub, Nat.reduceMul, Nat.reduceLeDiff, Nat.reduceEqDiff, Nat.succ_ne_self, reduceCtorEq, Int.reduceToNat, Int.cast_ofNat_Int, Int.reduceEq, Int.reduceNe, Int.reduceLT, Int.reduceLE, errV_succ]
      exact hK h4 (hle02.trans hle4)
end Go.Cw
namespace Go.Cw
open Go
theorem idx_one (c : UInt8) : ∀ s : List UInt8, (c ∉ s → Lib.index s [c] = -1) ∧ (c ∈ s → Lib.index s [c] = ((cutH c s).length : Nat)) := by
  intro s
  induction s with
  | nil => simp [Lib.index]
  | cons x r ih =>
    by_cases hx : x = c
    · subst hx
      refine ⟨fun h => absurd (by simp) h, fun _ => ?_⟩
      simp [Lib.index, List.isPrefixOf, cutH]
    · have hp : ([c] : List UInt8).isPrefixOf (x :: r) = false := by simp [List.isPrefixOf, Ne.symm hx]
      have e1 : cutH c (x :: r) = x :: cutH c r := by unfold cutH; rw [List.takeWhile_cons, if_pos (by simpa using hx)]
      have hix : Lib.index (x :: r) [c] = if Lib.index r [c] == -1 then -1 else Lib.index r [c] + 1 := by rw [Lib.index, hp]; simp
      rw [hix]
      refine ⟨fun h => ?_, fun h => ?_⟩
      · rw [List.mem_cons, not_or] at h
        rw [if_pos (beq_iff_eq.2 (ih.1 h.2))]
      · have h2 : c ∈ r := by
          rw [List.mem_cons] at h
          rcases h with e | h
          · exact absurd e.symm hx
          · exact h
        rw [if_neg (by rw [beq_iff_eq, ih.2 h2]; omega), ih.2 h2, e1]
        simp
theorem cutHT {c : UInt8} : ∀ {s : List UInt8}, c ∈ s → s.take (cutH c s).length = cutH c s ∧ s.drop ((cutH c s).length + 1) = cutT c s := by
  intro s
  induction s with
  | nil => intro h; simp at h
  | cons x r ih =>
    intro h
    by_cases hx : x = c
    · subst hx; simp [cutH, cutT]
    · have h2 : c ∈ r := by
        rw [List.mem_cons] at h
        rcases h with e | h
        · exact absurd e.symm hx
        · exact h
      have e1 : cutH c (x :: r) = x :: cutH c r := by unfold cutH; rw [List.takeWhile_cons, if_pos (by simpa using hx)]
      have e2 : cutT c (x :: r) = cutT c r := by unfold cutT; rw [List.dropWhile_cons, if_pos (by simpa using hx)]
      obtain ⟨i1, i2⟩ := ih h2
      rw [e1, e2]
      exact ⟨by simp [i1], by simpa using i2⟩
theorem cutH_not (c : UInt8) : ∀ s : List UInt8, c ∉ cutH c s := by
  intro s
  induction s with
  | nil => simp [cutH]
  | cons x r ih =>
    unfold cutH at *
    rw [List.takeWhile_cons]
    split
    · rename_i hx
      rw [List.mem_cons, not_or]
      exact ⟨Ne.symm (by simpa using hx), ih⟩
    · simp
theorem cut_eq {c : UInt8} : ∀ {s : List UInt8}, c ∈ s → s = cutH c s ++ c :: cutT c s := by
  intro s
  induction s with
  | nil => intro h; simp at h
  | cons x r ih =>
    intro h
    by_cases hx : x = c
    · subst hx; simp [cutH, cutT]
    · have h2 : c ∈ r := by
        rw [List.mem_cons] at h
        rcases h with e | h
        · exact absurd e.symm hx
        · exact h
      have e1 : cutH c (x :: r) = x :: cutH c r := by unfold cutH; rw [List.takeWhile_cons, if_pos (by simpa using hx)]
      have e2 : cutT c (x :: r) = cutT c r := by unfold cutT; rw [List.dropWhile_cons, if_pos (by simpa using hx)]
      rw [e1, e2, List.cons_append, ← ih h2]
theorem lib_split (c : UInt8) : ∀ (k : Nat) (s : List UInt8), s.count c ≤ k → Lib.splitK [c] 0 k s = pcs c s := by
  intro k
  induction k with
  | zero =>
    intro s h
    have : c ∉ s := by rw [← List.count_eq_zero]; omega
    rw [pcs_no this]; rfl
  | succ k ih =>
    intro s h
    obtain ⟨h1, h2⟩ := idx_one c s
    by_cases hc : c ∈ s
    · obtain ⟨q1, q2⟩ := cutHT hc
      have e : s = cutH c s ++ c :: cutT c s := cut_eq hc
      have hcnt : s.count c = (cutT c s).count c + 1 := by
        have h0 : (cutH c s).count c = 0 := by
          rw [List.count_eq_zero]
          exact cutH_not c s
        conv => lhs; rw [e]
        rw [List.count_append, h0, List.count_cons_self]; omega
      unfold Lib.splitK
      rw [h2 hc, if_neg (by rw [beq_iff_eq]; omega), pcs_cut hc]
      simp only [Int.toNat_natCast, Nat.add_zero, List.length_singleton]
      rw [q1, q2, ih _ (by omega)]
    · unfold Lib.splitK
      rw [h1 hc, if_pos (by rfl), pcs_no hc]
theorem decDigits_dec (n : Nat) : Lib.decDigits n = dec n := by
  induction n using Nat.strongRecOn with
  | _ n ih =>
    by_cases h : n < 10
    · rw [Lib.decDigits, dif_pos h, dec_lt h]
      unfold dig; rw [Nat.mod_eq_of_lt h]
    · rw [Lib.decDigits, dif_neg h, dec_ge (by omega), ih _ (by omega)]; rfl
theorem itoa_dec (n : Nat) : Lib.itoa (n : Int) = dec n := by
  unfold Lib.itoa
  rw [if_neg (by omega), Int.toNat_natCast, decDigits_dec]
end Go.Cw
namespace Go.Cw
open Go
inductive Ty where
  | int | str | bool | nil
  | cons (a b : Ty)
  | sl (e : Ty)
  deriving DecidableEq
def Ty.size : Ty → Nat
  | .int | .str | .bool | .sl _ => 1
  | .nil => 0
  | .cons a b => a.size + b.size
def full (w : World) : Heap := fun b => w.heap[b]?
theorem full_sub (w : World) : (full w).sub w := fun _ _ h => h
def Mat (w : World) : Ty → List Value → Prop
  | .int, cs => ∃ n, cs = [.int .i64 n] ∧ (Lit.int .i64 n).wf = true
  | .str, cs => ∃ s, cs = [.string s] ∧ s.size ≤ maxLen
  | .bool, cs => ∃ b, cs = [.bool b]
  | .nil, cs => cs = []
  | .cons a b, cs => ∃ x y, cs = x ++ y ∧ Mat w a x ∧ Mat w b y
  | .sl e, cs => ∃ a n cap, cs = [.slice a n cap] ∧ n ≤ cap ∧ cap ≤ maxLen ∧ (n = 0 ∨ ∃ g, a = some g ∧ ∃ rows : List (List Value), rows.length = n ∧ rowAt (full w) g rows.flatten ∧ ∀ r ∈ rows, Mat w e r)
def chkFs (P : Program) (chk : TypeId → Ty → Bool) : List Field → Nat → Ty → Bool
  | [], _, .nil => true
  | f :: r, off, .cons a b => f.offset == off && P.cellsOf f.type == a.size && chk f.type a && chkFs P chk r (off + a.size) b
  | _, _, _ => false
def chkAr (P : Program) (chk : TypeId → Ty → Bool) (e : TypeId) : Nat → Ty → Bool
  | 0, .nil => true
  | n + 1, .cons a b => P.cellsOf e == a.size && chk e a && chkAr P chk e n b
  | _, _ => false
def chk (P : Program) : Nat → TypeId → Ty → Bool
  | 0, _, _ => false
  | n + 1, t, ty =>
    match P.underlying t with
    | some (.int .i64) => ty == .int
    | some .string => ty == .str
    | some .bool => ty == .bool
    | some (.slice e) =>
      match ty with
      | .sl x => P.cellsOf e == x.size && decide (0 < x.size) && chk P n e x
      | _ => false
    | some (.struct fs) => P.cellsOf t == ty.size && chkFs P (chk P n) fs.toList 0 ty
    | some (.array k e) => P.cellsOf t == ty.size && chkAr P (chk P n) e k ty
    | _ => false
theorem mapM_some {α β : Type} {f : α → Option β} : ∀ {l : List α} {r : List β}, l.mapM f = some r → r.length = l.length ∧ ∀ i (h : i < l.length) (h' : i < r.length), f l[i] = some r[i] := by
  intro l
  induction l with
  | nil => intro r h; simp at h; subst h; simp
  | cons a l ih =>
    intro r h
    simp only [List.mapM_cons, Option.bind_eq_bind, Option.bind_eq_some_iff, Option.pure_def, Option.some.injEq] at h
    obtain ⟨y, h1, ys, h2, rfl⟩ := h
    obtain ⟨h3, h4⟩ := ih h2
    refine ⟨by simp [h3], fun i hi hi' => ?_⟩
    cases i with
    | zero => simpa using h1
    | succ i => simpa using h4 i (by simpa using hi) (by simpa using hi')
theorem cells_row {w : World} {a : Addr} {n : Nat} {cs : List Value} (h : w.cells? 0 a n = some cs) (hn : 0 < n) : cs.length = n ∧ a.spot = none ∧ ∀ i (hi : i < cs.length), w.cell? (a.add i) = some cs[i] := by
  simp only [World.cells?, Nat.zero_le, if_true] at h
  obtain ⟨h1, h2⟩ := mapM_some h
  have hl : cs.length = n := by simpa using h1
  refine ⟨hl, ?_, fun i hi => ?_⟩
  · have h3 := h2 0 (by simpa using hn) (by omega)
    simp only [List.getElem_range, addr_zero] at h3
    exact World.cell?_spot h3
  · have := h2 i (by simpa using by omega) hi
    simpa using this
theorem row_of_cells {w : World} {a : Addr} {cs : List Value} (hs : a.spot = none) (h : ∀ i (hi : i < cs.length), w.cell? (a.add i) = some cs[i]) (hne : cs ≠ []) : rowAt (full w) a cs := by
  have hb : ∀ i (hi : i < cs.length), ∃ c t fz, w.heap[a.block]? = some (.cells c t fz) ∧ c[a.off + i]? = some cs[i] := by
    intro i hi
    have h1 := h i hi
    rw [addr_add' a hs] at h1
    simp only [World.cell?] at h1
    split at h1
    · rename_i c t fz hh; exact ⟨c, t, fz, hh, by simpa using h1⟩
    · cases h1
  have hl : 0 < cs.length := List.length_pos_iff.2 hne
  obtain ⟨c, t, fz, h1, _⟩ := hb 0 hl
  refine ⟨hs, c, t, fz, h1, ?_, ?_⟩
  · obtain ⟨c', t', fz', h2, h3⟩ := hb (cs.length - 1) (by omega)
    rw [h1] at h2; cases h2
    have := (Array.getElem?_eq_some_iff.1 h3).1
    omega
  · intro i hi
    obtain ⟨c', t', fz', h2, h3⟩ := hb i hi
    rw [h1] at h2; cases h2
    rw [h3, List.getElem?_eq_getElem hi]
variable {H : Type} {enc : TypeId × Value → H} {P : Program} {w : World}
theorem mat_fs {n : Nat} (ih : ∀ (t : TypeId) (ty : Ty) (fuel : Nat) (cs : List Value) (x : DataW H × List MemPlace), chk P n t ty = true → DataW.trod enc P w 0 (fun _ => true) true fuel t cs = some x → Mat w ty cs) (fuel : Nat) (cs : List Value) :
    ∀ (fs : List Field) (off : Nat) (ty : Ty), chkFs P (chk P n) fs off ty = true → cs.length = off + ty.size →
      (∀ f ∈ fs, ∃ x, DataW.trod enc P w 0 (fun _ => true) true fuel f.type ((cs.drop f.offset).take (P.cellsOf f.type)) = some x) → Mat w ty (cs.drop off) := by
  intro fs
  induction fs with
  | nil =>
    intro off ty h1 h2 _
    cases ty <;> simp [chkFs] at h1
    simp only [Ty.size] at h2
    show cs.drop off = []
    exact List.drop_eq_nil_of_le (by omega)
  | cons f r ihr =>
    intro off ty h1 h2 h3
    cases ty with
    | cons a b =>
      simp only [chkFs, Bool.and_eq_true, beq_iff_eq] at h1
      obtain ⟨⟨⟨e1, e2⟩, e3⟩, e4⟩ := h1
      obtain ⟨y, h5⟩ := h3 f (by simp)
      simp only [Ty.size] at h2
      refine ⟨(cs.drop off).take a.size, cs.drop (off + a.size), ?_, ?_, ?_⟩
      · rw [← List.drop_drop, List.take_append_drop]
      · rw [e1, e2] at h5; exact ih _ _ _ _ _ e3 h5
      · exact ihr _ _ e4 (by omega) fun g hg => h3 g (by simp [hg])
    | _ => simp [chkFs] at h1
theorem mat_ar {n : Nat} (ih : ∀ (t : TypeId) (ty : Ty) (fuel : Nat) (cs : List Value) (x : DataW H × List MemPlace), chk P n t ty = true → DataW.trod enc P w 0 (fun _ => true) true fuel t cs = some x → Mat w ty cs) (fuel : Nat) (cs : List Value) (e : TypeId) :
    ∀ (k i : Nat) (ty : Ty), chkAr P (chk P n) e k ty = true → cs.length = i * P.cellsOf e + ty.size →
      (∀ j, j < k → ∃ x, DataW.trod enc P w 0 (fun _ => true) true fuel e ((cs.drop ((i + j) * P.cellsOf e)).take (P.cellsOf e)) = some x) → Mat w ty (cs.drop (i * P.cellsOf e)) := by
  intro k
  induction k with
  | zero =>
    intro i ty h1 h2 _
    cases ty <;> simp [chkAr] at h1
    simp only [Ty.size] at h2
    show cs.drop _ = []
    exact List.drop_eq_nil_of_le (by omega)
  | succ k ihk =>
    intro i ty h1 h2 h3
    cases ty with
    | cons a b =>
      simp only [chkAr, Bool.and_eq_true, beq_iff_eq] at h1
      obtain ⟨⟨e2, e3⟩, e4⟩ := h1
      simp only [Ty.size] at h2
      obtain ⟨x, h5⟩ := h3 0 (by omega)
      have e6 : i * P.cellsOf e + a.size = (i + 1) * P.cellsOf e := by rw [Nat.add_mul, e2]; omega
      refine ⟨(cs.drop (i * P.cellsOf e)).take a.size, cs.drop ((i + 1) * P.cellsOf e), ?_, ?_, ?_⟩
      · rw [← e6, ← List.drop_drop, List.take_append_drop]
      · rw [Nat.add_zero] at h5; rw [← e2]; exact ih _ _ _ _ _ e3 h5
      · refine ihk (i + 1) b e4 (by omega) fun j hj => ?_
        have := h3 (j + 1) (by omega)
        rwa [show i + (j + 1) = i + 1 + j by omega] at this
    | _ => simp [chkAr] at h1
theorem mat_of_trod : ∀ (n : Nat) (t : TypeId) (ty : Ty) (fuel : Nat) (cs : List Value) (x : DataW H × List MemPlace), chk P n t ty = true → DataW.trod enc P w 0 (fun _ => true) true fuel t cs = some x → Mat w ty cs := by
  intro n
  induction n with
  | zero => intro t ty fuel cs x h; simp [chk] at h
  | succ n ih =>
    intro t ty fuel cs x hc h
    cases fuel with
    | zero => simp [DataW.trod] at h
    | succ fuel =>
      simp only [chk] at hc
      split at hc
      · rename_i hu
        simp only [beq_iff_eq] at hc; subst hc
        obtain ⟨m, rfl, _, h1⟩ := DataW.trod_int hu h
        exact ⟨m, rfl, h1⟩
      · rename_i hu
        simp only [beq_iff_eq] at hc; subst hc
        obtain ⟨m, rfl, _, h1⟩ := DataW.trod_string hu h
        exact ⟨m, rfl, h1⟩
      · rename_i hu
        simp only [beq_iff_eq] at hc; subst hc
        obtain ⟨m, rfl, _⟩ := DataW.trod_bool hu h
        exact ⟨m, rfl⟩
      · rename_i e hu
        split at hc
        · rename_i y
          simp only [Bool.and_eq_true, beq_iff_eq, decide_eq_true_eq] at hc
          obtain ⟨⟨e1, e2⟩, e3⟩ := hc
          rcases DataW.trod_slice hu h with ⟨rfl, _⟩ | ⟨a, len, cap, elems, rest, m, _, rfl, _, _, hl, hm, hlen, hel, _⟩
          · exact ⟨none, 0, 0, rfl, Nat.le_refl _, Nat.zero_le _, .inl rfl⟩
          · refine ⟨some a, len, cap, rfl, hl, hm, ?_⟩
            by_cases h0 : len = 0
            · exact .inl h0
            · have key : ∀ i, i < len → ∃ r, w.cells? 0 (a.add (i * P.cellsOf e)) (P.cellsOf e) = some r ∧ Mat w y r := by
                intro i hi
                have h5 := hel i hi
                rw [List.getElem?_eq_getElem (by omega), Option.bind_eq_some_iff] at h5
                obtain ⟨r, h6, h7⟩ := h5
                exact ⟨r, h6, ih _ _ _ _ _ e3 h7⟩
              have h9' : a.spot = none := by
                obtain ⟨r, h6, h7⟩ := key 0 (by omega)
                obtain ⟨_, h9, _⟩ := cells_row h6 (by omega)
                rw [Nat.zero_mul, addr_zero] at h9
                exact h9
              have hrows : ∀ k, k ≤ len → ∃ rows : List (List Value), rows.length = k ∧ (∀ r ∈ rows, Mat w y r) ∧ rows.flatten.length = k * y.size ∧ ∀ i (hi : i < rows.flatten.length), w.cell? (a.add i) = some rows.flatten[i] := by
                intro k
                induction k with
                | zero => intro _; exact ⟨[], rfl, by simp, by simp, by simp⟩
                | succ k ihk =>
                  intro hk
                  obtain ⟨rows, r1, r2, r3, r4⟩ := ihk (by omega)
                  obtain ⟨r, h6, h7⟩ := key k (by omega)
                  obtain ⟨h8, h9, h10⟩ := cells_row h6 (by omega)
                  refine ⟨rows ++ [r], by simp [r1], ?_, ?_, ?_⟩
                  · intro x hx; simp at hx; rcases hx with hx | rfl
                    · exact r2 x hx
                    · exact h7
                  · simp [List.flatten_append, r3, h8, e1, Nat.add_mul]
                  · intro i hi
                    have e5 : (rows ++ [r]).flatten = rows.flatten ++ r := by simp
                    simp only [e5] at hi ⊢
                    by_cases hlt : i < rows.flatten.length
                    · rw [List.getElem_append_left hlt]; exact r4 i hlt
                    · rw [List.getElem_append_right (by omega)]
                      simp only [List.length_append] at hi
                      have := h10 (i - rows.flatten.length) (by omega)
                      rw [← this, addr_add' a h9', addr_add' a h9', addr_add' _ rfl]
                      congr 2
                      simp only
                      rw [r3, e1]; omega
              obtain ⟨rows, r1, r2, r3, r4⟩ := hrows len (Nat.le_refl _)
              have hne : rows.flatten ≠ [] := by
                intro h; rw [h] at r3
                have : 0 < len * y.size := Nat.mul_pos (by omega) e2
                simp at r3; omega
              exact .inr ⟨a, rfl, rows, r1, row_of_cells h9' r4 hne, r2⟩
        · cases hc
      · rename_i fs hu
        simp only [Bool.and_eq_true, beq_iff_eq] at hc
        obtain ⟨xs, m, h0, _, h1, h2, h3⟩ := DataW.trod_struct hu h
        have := mat_fs (enc := enc) ih m cs fs.toList 0 ty hc.2 (by omega) (by
          intro f hf
          obtain ⟨i, hi, rfl⟩ := List.getElem_of_mem hf
          have hi' : i < fs.size := by simpa using hi
          have h4 := h3 i fs[i] (by simp [hi'])
          rw [List.getElem?_eq_getElem (by omega)] at h4
          exact ⟨_, by simpa using h4⟩)
        simpa using this
      · rename_i k e hu
        simp only [Bool.and_eq_true, beq_iff_eq] at hc
        obtain ⟨xs, m, h0, _, h1, h2, h3⟩ := DataW.trod_array hu h
        have := mat_ar (enc := enc) ih m cs e k 0 ty hc.2 (by omega) (by
          intro j hj
          have h4 := h3 j hj
          rw [List.getElem?_eq_getElem (by omega)] at h4
          exact ⟨_, by simpa using h4⟩)
        simpa using this
      · cases hc
end Go.Cw
namespace Go.Cw
open Go Go.Proofs Go.RowKit
theorem WStep.below {h : Heap} {w w' : World} (hs : h.sub w) (b : Below w.heap.size w w') : WStep h h w w' :=
  ⟨fun x o hx => by
    have hw := hs x o hx
    rw [b.block x (Array.getElem?_eq_some_iff.1 hw).1]; exact hw, b.size, b.os, b.tape, b.output, fun x hx hn => ⟨hn, b.block x hx⟩⟩
theorem full_le {W w : World} {h : Heap} (hT : Heap.le (full W) h) (hs : h.sub w) {b : Nat} {o : Obj} (hb : W.heap[b]? = some o) : w.heap[b]? = some o := hs b o (hT b o hb)
theorem full_cell {W w : World} {h : Heap} (hT : Heap.le (full W) h) (hs : h.sub w) {a : Addr} {v : Value} (hc : W.cell? a = some v) : w.cell? a = some v := by
  unfold World.cell? at hc ⊢
  split at hc
  · rename_i c t fz hb
    rw [full_le hT hs hb]; exact hc
  · cases hc
theorem full_tab {P : Program} {W w : World} {h : Heap} (hT : Heap.le (full W) h) (hs : h.sub w) {name : String} {k : IntKind} {zs : List Int} (hc : Lib.TabIs P W name k zs) : Lib.TabIs P w name k zs := by
  unfold Lib.TabIs World.var? at hc ⊢
  cases hg : P.globalNamed name with
  | none => rw [hg] at hc; cases hc
  | some g =>
    rw [hg] at hc
    simp only [Option.bind_some] at hc ⊢
    split at hc
    · rename_i c t fz hb
      rw [full_le hT hs hb]; exact hc
    · cases hc
theorem bel_drewN (w : World) (n : Nat) : Below w.heap.size w (w.drewN n) := ⟨rfl, rfl, rfl, Nat.le_refl _, fun _ _ => rfl⟩
theorem bel_grow (w : World) (os : Array Obj) : Below w.heap.size w (Go.Sort.grow w os) := ⟨rfl, rfl, rfl, by rw [Go.Sort.size_grow]; omega, fun k hk => Go.Sort.heap_grow_old _ _ hk⟩
variable {P : Program} {ρ : Go.Shelf.Ren} {W : World}
theorem c176n_of (L : Go.Proofs.LaysM.n171 P ρ) (htab : Lib.TabIs P W "internal/strconv.uint64pow10" .u64 Lib.pow10Tab) : ∀ args h K, S176n (full W) args h K → ∀ w, h.sub w → Calls P (ρ.f 171) args.toArray w fun e w' => ∃ v h', e = .returned v ∧ K v h' ∧ WStep h h' w w' := by
  rintro _ h K ⟨n, rfl, hn, hT, hK⟩ w hs
  refine (Go.Proofs.Any.strconv_Itoa L (n : Int) (by omega) (by omega) w (full_tab hT hs htab)).mono ?_
  rintro e w' ⟨rfl, k, os, rfl⟩
  refine ⟨_, h, rfl, ?_, WStep.below hs ((bel_drewN w k).trans (bel_grow (w.drewN k) os))⟩
  rw [itoa_dec]
  exact hK h (Heap.le.refl h)
theorem c181_of (L : Go.Proofs.LaysM.n146 P ρ) (hsh : W.ShapedOpen P) : ∀ args h K, S181 (full W) args h K → ∀ w, h.sub w → Calls P (ρ.f 146) args.toArray w fun e w' => ∃ v h', e = .returned v ∧ K v h' ∧ WStep h h' w w' := by
  rintro _ h K ⟨s, c, rfl, hsl, hT, hK⟩ w hs
  obtain ⟨m, hm⟩ := L.s1_3 W hsh
  refine (Go.Proofs.Any.strings_Split { L with } L.i9 (str s) (str [c]) m w (by rw [str_size]; omega) (full_cell hT hs hm) (by rw [str_size]; simp)).mono ?_
  rintro e w' ⟨rfl, rfl⟩
  have hlen := Lib.splitB_all (str [c]) (by rw [str_size]; simp) 0 _ (str s) rfl
  have hdat := Lib.splitB_data (str [c]) 0 (Lib.countB (str s) (str [c])) (str s)
  rw [str_data, str_data, lib_split c _ s (by rw [Lib.countB, str_data, str_data, Lib.count_one]; exact Nat.le_refl _)] at hdat
  have hle := Lib.countB_le (str [c]) (by rw [str_size]; simp) (str s).size (str s) (Nat.le_refl _)
  rw [str_size] at hle
  generalize Lib.countB (str s) (str [c]) = k at *
  generalize hbs : Lib.splitB (str [c]) 0 k (str s) = bs at *
  have hpl : (pcs c s).length = k + 1 := by rw [← hdat, List.length_map, hlen]
  have hfl : (pcs c s).flatMap encT = bs.map Value.string := by
    rw [← hdat]
    clear hdat hlen hbs hpl hK
    induction bs with
    | nil => rfl
    | cons b bs ih => simp only [List.map_cons, List.flatMap_cons, encT, List.cons_append, List.nil_append, ih, str_of]
  have hnone : h w.heap.size = none := by
    cases hh : h w.heap.size with
    | none => rfl
    | some o => have := hs _ _ hh; simp at this
  refine ⟨_, h.set w.heap.size (.cells (bs.map Value.string).toArray (ρ.t 9) (0, 0)), rfl, hK _ _ ⟨(Heap.le.refl h).new hnone _, some ⟨w.heap.size, 0, none⟩, k + 1, by rw [hpl], by omega, by simp [maxLen]; omega, .inr ⟨w.heap.size, _, _, rfl, hnone, Heap.set_eq, by simp [hlen], fun i hi => by rw [hfl]; simp⟩⟩, WStep.push hs _⟩
end Go.Cw
namespace Go.Cw
open Go Go.RowKit
theorem mat_int {w : World} {b : Ty} {cs : List Value} (h : Mat w (.cons .int b) cs) : ∃ n r, cs = .int .i64 n :: r ∧ Mat w b r := by
  obtain ⟨x, y, rfl, ⟨n, rfl, _⟩, h2⟩ := h
  exact ⟨n, y, rfl, h2⟩
theorem mat_str {w : World} {b : Ty} {cs : List Value} (h : Mat w (.cons .str b) cs) : ∃ (s : List UInt8) (r : List Value), cs = .string (str s) :: r ∧ s.length ≤ maxLen ∧ Mat w b r := by
  obtain ⟨x, y, rfl, ⟨n, rfl, h1⟩, h2⟩ := h
  exact ⟨n.data.toList, y, by rw [str_of]; rfl, by simpa using h1, h2⟩
theorem law_calls {P : Program} {N : Num} {k : Nat} {f : FuncId} {args : List Value} {w : World} (hf : N.fid k = f) {fn : Func} (hn : P.funcs[f]? = some fn) (hb : (fn.body.isNone || fn.name == "runtime.NumGoroutine") = false) (h : GF P N k args (full w) fun v h' => v = .bool true ∧ Heap.le (full w) h') :
    Calls P f args.toArray w fun e w' => e = .returned (.bool true) ∧ Below w.heap.size w w' := by
  subst hf
  simp only [Bool.or_eq_false_iff] at hb
  rcases h with h | h
  rotate_left
  · exfalso
    obtain ⟨v, h', w', h1, _⟩ := h w (full_sub w)
    have hn' : fn.name ≠ "runtime.NumGoroutine" := by simpa using hb.2
    obtain ⟨c, hc⟩ : ∃ c, fn.body = some c := by
      cases hh : fn.body with
      | none => rw [hh] at hb; simp at hb
      | some c => exact ⟨c, rfl⟩
    simp [callFunc, program, Sem.run, hn, hn', hc] at h1
  refine (h.2 w (full_sub w)).mono ?_
  rintro e w' ⟨v, h', rfl, ⟨rfl, hle⟩, hs⟩
  refine ⟨rfl, hs.os, hs.tape, hs.output, hs.size, fun b hb => ?_⟩
  have h1 : full w b = some w.heap[b] := by simp [full, hb]
  rw [hs.sub b _ (hle b _ h1)]
  simp [hb]
end Go.Cw
namespace Go.Cw
open Go
theorem okWide_ag {P : Program} {w : World} {r : Reach} {b0 : Nat} {t : TypeId} {fs : Array Field} {v : Value} (ht : P.underlying t = some (.struct fs)) (h : Value.okWide P w r b0 t v) : ∃ cs, v = .agg cs := by
  unfold Value.okWide at h
  rw [ht] at h
  obtain ⟨cs, h1, _⟩ := h
  exact ⟨cs, h1⟩
end Go.Cw
namespace Go.Cw
open Go Go.Proofs Go.RowKit
theorem iface_of_laid {P : Program} {W : World} {name nm : String} {d : DataW Unit} {g : Nat} {ti : TypeId} {ms : Array (String × TypeId)} (hg : P.globalNamed name = some g) (hty : (P.globals[g]?).map (·.type) = some ti) (hi : P.underlying ti = some (.interface ms))
    (h : laidMet P [(name, .iface nm d)] W) : ∃ te pe, W.cell? ⟨g, 0, none⟩ = some (.iface te pe) := by
  obtain ⟨ps, ⟨g', t', cs, fuel, p, q, hg', ht', hvar, hd, _, _⟩, _⟩ := h
  obtain rfl := Option.some.inj (hg.symm.trans hg')
  obtain rfl := Option.some.inj (hty.symm.trans ht')
  obtain ⟨_, u, v, e, _, _⟩ := iface_of_trod hi hd
  refine ⟨u, v, ?_⟩
  have h0 := World.var?_cell hg hvar 0
  rw [h0]
  have : cs[0]? = cs.toList[0]? := by simp
  rw [this, e]; rfl
theorem parse_dig : ∀ (s : List UInt8) (acc : Nat), digs s → (acc + 1) * 10 ^ s.length ≤ 10 ^ 18 → Lib.parseUint10 acc s = .ok (s.foldl (fun a b => 10 * a + (b.toNat - 48)) acc) := by
  intro s
  induction s with
  | nil => intro acc _ _; rfl
  | cons c r ih =>
    intro acc hd hl
    have hc := hd c (by simp)
    have hp : 0 < 10 ^ r.length := Nat.pow_pos (by omega)
    have hl2 : (acc + 1) * 10 * 10 ^ r.length ≤ 10 ^ 18 := by
      rw [List.length_cons, Nat.pow_succ] at hl
      rw [Nat.mul_assoc, Nat.mul_comm 10]; exact hl
    have hacc : (acc + 1) * 10 ≤ 10 ^ 18 := Nat.le_trans (Nat.le_mul_of_pos_right _ hp) hl2
    unfold Lib.parseUint10
    rw [if_pos hc, if_neg (by omega), if_neg (by omega), List.foldl_cons, Nat.mul_comm acc 10]
    refine ih _ (fun b hb => hd b (by simp [hb])) (Nat.le_trans (Nat.mul_le_mul_right _ ?_) hl2)
    omega
theorem atoi_dec {n : Nat} (hn : n ≤ 1000000000000000) : Lib.atoiAll (dec n) = .ok (n : Int) := by
  have hl := dec_len 16 (n := n) (by omega) (by omega)
  have hd := digs_dec n
  have hp : 10 ^ (dec n).length ≤ 10 ^ 16 := Nat.pow_le_pow_right (by omega) hl
  have hpar := parse_dig (dec n) 0 hd (by omega)
  have hnv : (dec n).foldl (fun a b => 10 * a + (b.toNat - 48)) 0 = n := numv_dec n
  rw [hnv] at hpar
  cases hdn : dec n with
  | nil => exact absurd hdn (dec_ne n)
  | cons c r =>
    rw [hdn] at hd hpar
    have hc := hd c (by simp)
    have h1 : ¬ (c.toNat = 43 ∨ c.toNat = 45) := by omega
    have h2 : ¬ c.toNat = 45 := by omega
    have hm : Lib.parseMag (c :: r) = .ok n := by unfold Lib.parseMag; rw [if_neg (by simp)]; exact hpar
    have e : (if c.toNat = 43 ∨ c.toNat = 45 then r else c :: r) = c :: r := if_neg h1
    unfold Lib.atoiAll
    dsimp only
    rw [e, hm]
    dsimp only
    rw [if_neg (by omega), if_neg (by omega), if_neg h2]
theorem trim_lib (c : UInt8) (s : List UInt8) : Lib.trimSuffix s [c] = trimC c s := by
  unfold Lib.trimSuffix trimC Lib.hasSuffix
  rcases List.eq_nil_or_concat s with rfl | ⟨l, x, rfl⟩
  · simp
  · simp only [List.concat_eq_append]
    by_cases hx : x = c
    · subst hx
      rw [if_pos (by simp), if_pos (by simp)]
      simp
    · have h1 : ([c] : List UInt8).isSuffixOf (l ++ [x]) = false := by
        cases hh : ([c] : List UInt8).isSuffixOf (l ++ [x]) with
        | false => rfl
        | true =>
          rw [List.isSuffixOf_iff_suffix] at hh
          obtain ⟨t, ht⟩ := hh
          have := List.append_inj_right' ht (by simp)
          simp at this
          exact absurd this.symm hx
      rw [if_neg (by rw [h1]; simp), if_neg (by simp [hx])]
variable {P : Program} {ρ : Go.Shelf.Ren} {W : World}
theorem c191_of (L : Go.Proofs.Lays.n102 P ρ) : ∀ args h K, S191 args h K → ∀ w, h.sub w → Calls P (ρ.f 102) args.toArray w fun e w' => ∃ v h', e = .returned v ∧ K v h' ∧ WStep h h' w w' := by
  rintro _ h K ⟨s, c, rfl, hsl, hK⟩ w hs
  refine (Go.Proofs.Any.strings_TrimSuffix L (str s) (str [c]) w (by rw [str_size]; omega)).mono ?_
  rintro e w' ⟨rfl, rfl⟩
  refine ⟨_, h, rfl, ?_, WStep.refl hs⟩
  rw [str_data, str_data, trim_lib]
  exact hK h (Heap.le.refl h)
theorem c190_of (L : Go.Proofs.LaysC.n172 P ρ) (h1 : ∃ te pe, W.cell? ⟨(ρ.g 15), 0, none⟩ = some (.iface te pe)) (h2 : ∃ te pe, W.cell? ⟨(ρ.g 16), 0, none⟩ = some (.iface te pe)) : ∀ args h K, S190 (full W) args h K → ∀ w, h.sub w → Calls P (ρ.f 172) args.toArray w fun e w' => ∃ v h', e = .returned v ∧ K v h' ∧ WStep h h' w w' := by
  rintro _ h K ⟨s, rfl, hsl, hT, hK⟩ w hs
  obtain ⟨t1, p1, c1⟩ := h1
  obtain ⟨t2, p2, c2⟩ := h2
  have hno : ∀ {e : Lib.NumEnd Int}, Lib.atoiAll s = e → (∀ v, e ≠ .ok v) → ∀ n, s = dec n → n ≤ 1000000000000000 → False := by
    intro e he hne n hd hn
    rw [hd, atoi_dec hn] at he
    exact hne _ he.symm
  rcases ha : Lib.atoiAll s with v | _ | _
  · refine (Go.Proofs.Any.strconv_Atoi_ok L (str s) (by rw [str_size]; omega) v ha w).mono ?_
    rintro e w' ⟨rfl, hw⟩
    refine ⟨_, h, rfl, hK h v .nilIface (Heap.le.refl h) (fun n hd hn => ⟨?_, rfl⟩) (.inl rfl), ?_⟩
    · rw [hd, atoi_dec hn] at ha
      cases ha; rfl
    · rcases hw with rfl | ⟨t, rfl⟩
      · exact WStep.refl hs
      · exact WStep.below hs (Lib.bytesWorld_below w _ t)
  · refine (Go.Proofs.Any.strconv_Atoi_syntax L (str s) (by rw [str_size]; omega) ha _ w (full_cell hT hs c1) (.inr ⟨t1, p1, rfl⟩)).mono ?_
    rintro e w' ⟨M, rfl, _, _, hb⟩
    exact ⟨_, h, rfl, hK h 0 _ (Heap.le.refl h) (fun n hd hn => (hno ha (by intro v hv; cases hv) n hd hn).elim) (.inr ⟨_, _, rfl⟩), WStep.below hs hb⟩
  · refine (Go.Proofs.Any.strconv_Atoi_range L (str s) (by rw [str_size]; omega) ha _ w (full_cell hT hs c2) (.inr ⟨t2, p2, rfl⟩)).mono ?_
    rintro e w' ⟨M, rfl, _, _, hb⟩
    exact ⟨_, h, rfl, hK h _ _ (Heap.le.refl h) (fun n hd hn => (hno ha (by intro v hv; cases hv) n hd hn).elim) (.inr ⟨_, _, rfl⟩), WStep.below hs hb⟩
def ruleTy : Ty := .cons .str (.cons .int (.cons .int (.cons .int (.cons .int (.cons .int .nil)))))
theorem mat_rule {w : World} {cs : Array Value} (h : Mat w ruleTy cs.toList) : ∃ r : Rl, .agg cs = aggR r ∧ r.name.length ≤ 9223372036854775807 := by
  obtain ⟨s, r0, e0, hsl, h⟩ := mat_str h
  obtain ⟨b, r2, e2, h⟩ := mat_int h
  obtain ⟨c, r3, e3, h⟩ := mat_int h
  obtain ⟨d, r4, e4, h⟩ := mat_int h
  obtain ⟨e, r5, e5, h⟩ := mat_int h
  obtain ⟨f, r6, e6, h⟩ := mat_int h
  cases h
  refine ⟨⟨s, b, c, d, e, f⟩, ?_, by simpa [maxLen] using hsl⟩
  have : cs = cs.toList.toArray := rfl
  rw [this, e0, e2, e3, e4, e5, e6]; rfl
end Go.Cw
