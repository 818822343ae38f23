/- FeedSays returns true whatever it is given, and all its arguments read as before. No condition on the input. -/
import Derived.Test.YthhepmakjimhlaaCwS
import Derived.WalkKit
import Derived.ProofKit
import Derived.OpenShut
import Derived.ShutString
import Derived.ChangeOld
import Derived.Below
namespace Go.Proofs.Ythhepmakjimhlaa.CwFeedSays
open Go Go.Cw Go.Proofs Go.ChangeShapes Go.WideShapes Go.ChangeAt Go.RowKit
open Go.ChangeMaps (open_string shut_string)
set_option linter.unusedVariables false

theorem own : ownKnob Try.prog.godebug = none := by kernel_rfl
theorem laidOut : laidOutB Try.prog = true := by kernel_rfl

abbrev G : Ctx := GF Try.prog N
theorem c17 : Sat S17 (G 17) := Sat.of has17 F17_ok
theorem c19 : Sat (S19 N) (G 19) := Sat.of has19 F19_ok
theorem c20 : Sat (S20 N) (G 20) := Sat.of has20 F20_ok
theorem c21 : Sat S21 (G 21) := Sat.of has21 F21_ok
theorem c22 : Sat S22 (G 22) := Sat.of has22 F22_ok
theorem c23 : Sat S23 (G 23) := Sat.of has23 F23_ok
theorem c26 : Sat S26 (G 26) := Sat.of has26 F26_ok
theorem c27 : Sat S27 (G 27) := Sat.of has27 F27_ok
theorem c56 : Sat S56 (G 56) := Sat.of has56 F56_ok
theorem c72 : Sat S72 (G 72) := Sat.of has72 F72_ok
theorem c57 : Sat S57 (G 57) := Sat.of has57 (F57_ok c56 c72)
theorem c58 : Sat S58 (G 58) := Sat.of has58 (F58_ok c17 c22)
theorem c59 : Sat S59 (G 59) := Sat.of has59 F59_ok
theorem c24 : Sat S24 (G 24) := Sat.of has24 (F24_ok c57)
theorem c25 : Sat S24 (G 25) := Sat.of has25 (F25_ok c58 c59)
theorem c18 : Sat (S18 N) (G 18) := Sat.of has18 (F18_ok c20 c56)
theorem c16 : Sat STrue (G 16) := Sat.of has16 (F16_ok c18 c24 c19 c26 c27)
theorem c5 : Sat S5 (G 5) := Sat.of has5 (F5_ok c16 c23 c24 c25 c21 c26 c27)

set_option maxRecDepth 100000 in
theorem lifted (os : Os) (started : os.Started) (H : Type) (enc : TypeId × Value → H) :
    ReturnsInHanded {} Try.checked os 5 .any (Rows.feedSaysSpec.pre6 enc Try.prog Try.f5 Rows.feedSaysRow.domain false) (Rows.feedSaysSpec.post enc Try.prog Try.f5 false true false false) := by
  refine returnsInHanded_of_change (C := Try.checked) own started (by kernel_rfl) Try.func5
    (ChangeSpec.witness6 (enc := enc) (C := Try.checked) false ⟨#[], #[.slice none 0 0], []⟩ 8 (by kernel_rfl) (by kernel_rfl) (by kernel_rfl) (by kernel_rfl)) ?_
  intro W base args ds gs before hval0 hW hcnd _
  have hval : ∀ (j : Nat) t v, Try.f5.params[j]? = some t → args[j]? = some v → Value.okWide Try.prog W .any base t v := hval0
  have hW' := hW
  obtain ⟨p, q, hA0, hV, rfl, hfz, hnd⟩ := hW
  have hA : DataW.TrodAll enc Try.prog W 0 (fun _ => true) true Try.f5.params.toList args.toList ds p := hA0
  rw [Try.params5] at hA hval
  obtain ⟨v0, vs0, d0, ds0, p0, q0, hargs, rfl, rfl, h0, r0⟩ := trodAll_cons hA
  obtain ⟨rfl, rfl, rfl⟩ := trodAll_nil r0
  obtain rfl : args = #[v0] := by cases args; simp_all
  obtain ⟨rfl, rfl⟩ := trodVars_none hV
  have k0 := h0
  have lt0 : ∀ x ∈ p0, x.block < W.heap.size := by obtain ⟨m, hm⟩ := k0; exact DataW.trod_lt m _ _ _ hm
  obtain ⟨a0, len0, cap0, e0⟩ := okWide_slice Try.underlying29 (hval 0 29 v0 rfl rfl)
  have m0 : Mat W (.sl .str) [v0] := by obtain ⟨fuel, hf⟩ := h0; exact mat_cell e0 (mat_of_trod 12 29 (.sl .str) fuel _ _ (by kernel_rfl) hf)
  obtain ⟨x0, hx0⟩ := mat_sl mat_encS m0
  clear hA0 hval0
  have hwalk := law_calls (P := Try.prog) (N := N) (k := 5) (f := 5) (w := W) rfl (c5 _ _ _ ⟨v0, x0, rfl, hx0.1, fun _ hle => ⟨rfl, hle⟩⟩)
  refine hwalk.mono fun e W' ⟨he, bel⟩ => ?_
  subst he
  exact ⟨_, rfl, _, _, _, [], _, [], hW', trodAll_mk1 (shut_bool Try.underlying4 _), (trodAll_cons_mk (Below.trod laidOut (by kernel_rfl) (of_decide_eq_true (by kernel_rfl)) k0 bel lt0) trodAll_mk0), rfl, bel.frame _, fun h => by cases h⟩

theorem over : Rows.feedSaysRow.holds Try.pinned (OpenSpec.ofChange Rows.feedSaysSpec) :=
  OpenClaim.holds_of_wide 5 Try.f5 rfl rfl rfl rfl rfl rfl rfl ⟨rfl, rfl, rfl, rfl, rfl⟩ rfl rfl rfl rfl rfl (by kernel_rfl) Try.func5 (by kernel_rfl)
    (of_decide_eq_true (by kernel_rfl)) (by unfold Func.isWrapper; first | (rw [if_pos (by decide +kernel)]; kernel_rfl) | (rw [if_neg (of_decide_eq_false (by kernel_rfl))]; exact ⟨rfl, rfl⟩))
    (fun os started H enc _ => lifted os started H enc)
end Go.Proofs.Ythhepmakjimhlaa.CwFeedSays
namespace Go.Proofs.Ythhepmakjimhlaa
theorem feedSays_holds : Rows.FeedSaysSaid := CwFeedSays.over
#print axioms feedSays_holds
end Go.Proofs.Ythhepmakjimhlaa
