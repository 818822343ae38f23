/- TopFrames returns true whatever it is given, and all its arguments read as before. No condition on the input. -/
import Derived.Test.YthhepmakjimhlaaCwS
import Derived.WalkKit
import Derived.ProofKit
import Derived.OpenShut
import Derived.ShutString
import Derived.ChangeOld
import Derived.Below
namespace Go.Proofs.Ythhepmakjimhlaa.CwTopFrames
open Go Go.Cw Go.Proofs Go.ChangeShapes Go.WideShapes Go.ChangeAt Go.RowKit
open Go.ChangeMaps (open_string shut_string)
set_option linter.unusedVariables false

theorem own : ownKnob Try.prog.godebug = none := by kernel_rfl
theorem laidOut : laidOutB Try.prog = true := by kernel_rfl

abbrev G : Ctx := GF Try.prog N
theorem c20 : Sat (S20 N) (G 20) := Sat.of has20 F20_ok
theorem c21 : Sat S21 (G 21) := Sat.of has21 F21_ok
theorem c26 : Sat S26 (G 26) := Sat.of has26 F26_ok
theorem c27 : Sat S27 (G 27) := Sat.of has27 F27_ok
theorem c56 : Sat S56 (G 56) := Sat.of has56 F56_ok
theorem c72 : Sat S72 (G 72) := Sat.of has72 F72_ok
theorem c57 : Sat S57 (G 57) := Sat.of has57 (F57_ok c56 c72)
theorem c24 : Sat S24 (G 24) := Sat.of has24 (F24_ok c57)
theorem c18 : Sat (S18 N) (G 18) := Sat.of has18 (F18_ok c20 c56)
theorem c8 : Sat S8 (G 8) := Sat.of has8 (F8_ok c18 c24 c21 c26 c27)

set_option maxRecDepth 100000 in
theorem lifted (os : Os) (started : os.Started) (H : Type) (enc : TypeId × Value → H) :
    ReturnsInHanded {} Try.checked os 8 .any (Rows.topFramesSpec.pre6 enc Try.prog Try.f8 Rows.topFramesRow.domain false) (Rows.topFramesSpec.post enc Try.prog Try.f8 false true false false) := by
  refine returnsInHanded_of_change (C := Try.checked) own started (by kernel_rfl) Try.func8
    (ChangeSpec.witness6 (enc := enc) (C := Try.checked) false ⟨#[], #[.slice none 0 0, .string .empty, .slice none 0 0], []⟩ 8 (by kernel_rfl) (by kernel_rfl) (by kernel_rfl) (by kernel_rfl)) ?_
  intro W base args ds gs before hval0 hW hcnd _
  have hval : ∀ (j : Nat) t v, Try.f8.params[j]? = some t → args[j]? = some v → Value.okWide Try.prog W .any base t v := hval0
  have hW' := hW
  obtain ⟨p, q, hA0, hV, rfl, hfz, hnd⟩ := hW
  have hA : DataW.TrodAll enc Try.prog W 0 (fun _ => true) true Try.f8.params.toList args.toList ds p := hA0
  rw [Try.params8] at hA hval
  obtain ⟨v0, vs0, d0, ds0, p0, q0, hargs, rfl, rfl, h0, r0⟩ := trodAll_cons hA
  obtain ⟨v1, vs1, d1, ds1, p1, q1, rfl, rfl, rfl, h1, r1⟩ := trodAll_cons r0
  obtain ⟨v2, vs2, d2, ds2, p2, q2, rfl, rfl, rfl, h2, r2⟩ := trodAll_cons r1
  obtain ⟨rfl, rfl, rfl⟩ := trodAll_nil r2
  obtain rfl : args = #[v0, v1, v2] := by cases args; simp_all
  obtain ⟨rfl, rfl⟩ := trodVars_none hV
  have k0 := h0
  have lt0 : ∀ x ∈ p0, x.block < W.heap.size := by obtain ⟨m, hm⟩ := k0; exact DataW.trod_lt m _ _ _ hm
  obtain ⟨a0, len0, cap0, e0⟩ := okWide_slice Try.underlying49 (hval 0 49 v0 rfl rfl)
  have m0 : Mat W (.sl frTy) [v0] := by obtain ⟨fuel, hf⟩ := h0; exact mat_cell e0 (mat_of_trod 12 49 (.sl frTy) fuel _ _ (by kernel_rfl) hf)
  obtain ⟨x0, hx0⟩ := mat_frs m0
  have k1 := h1
  have lt1 : ∀ x ∈ p1, x.block < W.heap.size := by obtain ⟨m, hm⟩ := k1; exact DataW.trod_lt m _ _ _ hm
  obtain ⟨s1, rfl, _, _, w1⟩ := open_string Try.underlying9 (hval 1 9 v1 rfl rfl) h1
  have k2 := h2
  have lt2 : ∀ x ∈ p2, x.block < W.heap.size := by obtain ⟨m, hm⟩ := k2; exact DataW.trod_lt m _ _ _ hm
  obtain ⟨a2, len2, cap2, e2⟩ := okWide_slice Try.underlying90 (hval 2 90 v2 rfl rfl)
  have m2 : Mat W (.sl .int) [v2] := by obtain ⟨fuel, hf⟩ := h2; exact mat_cell e2 (mat_of_trod 12 90 (.sl .int) fuel _ _ (by kernel_rfl) hf)
  obtain ⟨x2, hx2⟩ := mat_sl mat_encI m2
  clear hA0 hval0
  have hwalk := law_calls (P := Try.prog) (N := N) (k := 8) (f := 8) (w := W) rfl (c8 _ _ _ ⟨v0, s1.data.toList, v2, x0, x2, by rw [str_of], hx0, hx2.1, fun _ hle => ⟨rfl, hle⟩⟩)
  refine hwalk.mono fun e W' ⟨he, bel⟩ => ?_
  subst he
  exact ⟨_, rfl, _, _, _, [], _, [], hW', trodAll_mk1 (shut_bool Try.underlying4 _), (trodAll_cons_mk (Below.trod laidOut (by kernel_rfl) (of_decide_eq_true (by kernel_rfl)) k0 bel lt0) (trodAll_cons_mk (Below.trod laidOut (by kernel_rfl) (of_decide_eq_true (by kernel_rfl)) k1 bel lt1) (trodAll_cons_mk (Below.trod laidOut (by kernel_rfl) (of_decide_eq_true (by kernel_rfl)) k2 bel lt2) trodAll_mk0))), rfl, bel.frame _, fun h => by cases h⟩

theorem over : Rows.topFramesRow.holds Try.pinned (OpenSpec.ofChange Rows.topFramesSpec) :=
  OpenClaim.holds_of_wide 8 Try.f8 rfl rfl rfl rfl rfl rfl rfl ⟨rfl, rfl, rfl, rfl, rfl⟩ rfl rfl rfl rfl rfl (by kernel_rfl) Try.func8 (by kernel_rfl)
    (of_decide_eq_true (by kernel_rfl)) (by unfold Func.isWrapper; first | (rw [if_pos (by decide +kernel)]; kernel_rfl) | (rw [if_neg (of_decide_eq_false (by kernel_rfl))]; exact ⟨rfl, rfl⟩))
    (fun os started H enc _ => lifted os started H enc)
end Go.Proofs.Ythhepmakjimhlaa.CwTopFrames
namespace Go.Proofs.Ythhepmakjimhlaa
theorem topFrames_holds : Rows.TopFramesSaid := CwTopFrames.over
#print axioms topFrames_holds
end Go.Proofs.Ythhepmakjimhlaa
