/- Part 6 of the proof of TopEpochs: a small language for the program's functions, its soundness, and what the functions do. No conditions beyond the theorems' own. -/
import Derived.Test.YthhepmakjimhlaaCw5
import Derived.Shelf.Small.Bits
import Derived.Sort.WalkA14
set_option linter.unusedSimpArgs false
set_option linter.unusedVariables false
namespace Go.Cw
open Go
theorem mat_si {w : World} (cs : List Value) (h : Mat w rdTy cs) : ∃ x : Si, True ∧ cs = x.enc := by
  obtain ⟨a, _, rfl, h1⟩ := mat_int h
  obtain ⟨b, _, rfl, h2⟩ := mat_int h1
  obtain ⟨c, _, rfl, h3⟩ := mat_int h2
  obtain ⟨s, _, rfl, _, h4⟩ := mat_str h3
  cases h4
  exact ⟨⟨a, b, c, s⟩, trivial, rfl⟩
theorem mat_ss {w : World} {v : Value} (h : Mat w (.sl (.sl rdTy)) [v]) : ∃ L, SS (full w) v L := by
  obtain ⟨l, hl, hg, _⟩ := mat_sl (enc := encV) (Good := fun x => ∃ r : List Si, Sl Si.enc (full w) x r) (by
    intro cs h
    have h' := h
    obtain ⟨a, n, cap, rfl, _⟩ := h
    obtain ⟨r, hr, _⟩ := mat_sl mat_si h'
    exact ⟨_, ⟨r, hr⟩, rfl⟩) h
  have : ∀ l : List Value, (∀ x ∈ l, ∃ r : List Si, Sl Si.enc (full w) x r) → ∃ L : List (List Si), l.length = L.length ∧ ∀ i, i < L.length → Sl Si.enc (full w) (l.getD i undef) (L.getD i []) := by
    intro l
    induction l with
    | nil => intro _; exact ⟨[], rfl, by simp⟩
    | cons r l ih =>
      intro h
      obtain ⟨L, h1, h2⟩ := ih fun r hr => h r (by simp [hr])
      obtain ⟨f, hf⟩ := h r (by simp)
      refine ⟨f :: L, by simp [h1], fun i hi => ?_⟩
      cases i with
      | zero => simpa using hf
      | succ i => simpa using h2 i (by simpa using hi)
  obtain ⟨L, h1, h2⟩ := this l hg
  exact ⟨L, l, hl, h1, h2⟩
end Go.Cw
/- A slice of acts; math/bits.Len. -/
namespace Go.Cw
open Go

def acTy : Ty := .cons .str (.cons .int (.cons .str (.cons rdTy .nil)))
theorem mat_ac {w : World} (cs : List Value) (h : Mat w acTy cs) : ∃ x : Ac, True ∧ cs = x.enc := by
  obtain ⟨k, _, rfl, _, h1⟩ := mat_str h
  obtain ⟨n, _, rfl, h2⟩ := mat_int h1
  obtain ⟨s, _, rfl, _, h3⟩ := mat_str h2
  obtain ⟨x, y, rfl, h4, h5⟩ := h3
  obtain ⟨si, _, rfl⟩ := mat_si x h4
  cases h5
  exact ⟨⟨k, n, s, si⟩, trivial, by simp [Ac.enc, Si.enc]⟩
theorem mat_acs {w : World} {v : Value} (h : Mat w (.sl acTy) [v]) : ∃ L : List Ac, Sl Ac.enc (full w) v L := by
  obtain ⟨L, h1, _⟩ := mat_sl mat_ac h
  exact ⟨L, h1⟩
theorem c76_of {P : Program} {ρ : Go.Shelf.Ren} (Ly : Go.Proofs.Lays.n125 P ρ) : ∀ args h K, S76 args h K → ∀ w, h.sub w → Calls P (ρ.f 125) args.toArray w fun e w' => ∃ v h', e = .returned v ∧ K v h' ∧ WStep h h' w w' := by
  rintro _ h K ⟨n, rfl, hn, hK⟩ w hs
  refine (Go.Proofs.Any.bits_Len Ly n w (by omega) (by omega)).mono ?_
  rintro e w' ⟨rfl, rfl⟩
  refine ⟨_, h, rfl, ?_, WStep.refl hs⟩
  rw [Int.toNat_natCast, Go.Proofs.bitLen_eq n (by omega)]
  exact hK
end Go.Cw
