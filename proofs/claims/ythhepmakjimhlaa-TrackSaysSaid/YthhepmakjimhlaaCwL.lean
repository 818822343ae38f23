/- TrackSays returns true whatever it is given, and all its arguments read as before. No condition on the input. -/
import Derived.Test.YthhepmakjimhlaaCwS
import Derived.WalkKit
import Derived.ProofKit
import Derived.OpenShut
import Derived.ShutString
import Derived.ChangeOld
import Derived.Below
namespace Go.Proofs.Ythhepmakjimhlaa.CwTrackSays
open Go Go.Cw Go.Proofs Go.ChangeShapes Go.WideShapes Go.ChangeAt Go.RowKit
open Go.ChangeMaps (open_string shut_string)
set_option linter.unusedVariables false

theorem own : ownKnob Try.prog.godebug = none := by kernel_rfl
theorem laidOut : laidOutB Try.prog = true := by kernel_rfl

abbrev G : Ctx := GF Try.prog N
theorem c12 : Sat S12t (G 12) := Sat.of has12 F12t_ok
theorem c19 : Sat (S19 N) (G 19) := Sat.of has19 F19_ok
theorem c28 : Sat (S28 N) (G 28) := Sat.of has28 F28_ok
theorem c60 : Sat S60 (G 60) := Sat.of has60 F60_ok
theorem c29 : Sat (S29 N) (G 29) := Sat.of has29 (F29_ok c60)
theorem c30 : Sat (S30 N) (G 30) := Sat.of has30 F30_ok
theorem c31 : Sat S31 (G 31) := Sat.of has31 F31_ok
theorem c55 : Sat S55 (G 55) := Sat.of has55 F55_ok
theorem c111 : Sat S111 (G 111) := Sat.of has111 F111_ok
theorem c86 : Sat S86 (G 86) := Sat.of has86 (F86_ok c111)
theorem c85 : Sat S85 (G 85) := Sat.of has85 F85_ok
theorem c70 : Sat S70 (G 70) := Sat.of has70 (F70_ok c85 c86)
theorem c52 : Sat S52 (G 52) := Sat.of has52 (F52_ok c55 c70)
theorem c53 : Sat S53 (G 53) := Sat.of has53 (F53_ok c52 c70)
theorem c50 : Sat S50 (G 50) := Sat.of has50 (F50_ok c30)
theorem c51 : Sat S51 (G 51) := Sat.of has51 F51_ok
theorem c45 : Sat S45 (G 45) := Sat.of has45 F45_ok
theorem c14 : Sat S14 (G 14) := Sat.of has14 F14_ok
theorem c54 : Sat (S54 N) (G 54) := Sat.of has54 F54_ok
theorem c13 : Sat (S13 N) (G 13) := Sat.of has13 (F13_ok c28 c19 c51 c45 c29 c31)
theorem c11 : Sat S11 (G 11) := Sat.of has11 (F11_ok c28 c19 c29 c30 c31 c50)
theorem c15 : Sat S15 (G 15) := Sat.of has15 (F15_ok c30 c52 c19 c50 c53 c54 c55 c14)
theorem c3 : Sat S3 (G 3) := Sat.of has3 (F3_ok c11 c12 c13 c14 c15)

set_option maxRecDepth 100000 in
theorem lifted (os : Os) (started : os.Started) (H : Type) (enc : TypeId × Value → H) :
    ReturnsInHanded {} Try.checked os 3 .any (Rows.trackSaysSpec.pre6 enc Try.prog Try.f3 Rows.trackSaysRow.domain false) (Rows.trackSaysSpec.post enc Try.prog Try.f3 false true false false) := by
  refine returnsInHanded_of_change (C := Try.checked) own started (by kernel_rfl) Try.func3
    (ChangeSpec.witness6 (enc := enc) (C := Try.checked) false ⟨#[], #[.int .i64 0, .int .i64 0, .slice none 0 0, .string .empty], []⟩ 8 (by kernel_rfl) (by kernel_rfl) (by kernel_rfl) (by kernel_rfl)) ?_
  intro W base args ds gs before hval0 hW hcnd _
  have hval : ∀ (j : Nat) t v, Try.f3.params[j]? = some t → args[j]? = some v → Value.okWide Try.prog W .any base t v := hval0
  have hW' := hW
  obtain ⟨p, q, hA0, hV, rfl, hfz, hnd⟩ := hW
  have hA : DataW.TrodAll enc Try.prog W 0 (fun _ => true) true Try.f3.params.toList args.toList ds p := hA0
  rw [Try.params3] at hA hval
  obtain ⟨v0, vs0, d0, ds0, p0, q0, hargs, rfl, rfl, h0, r0⟩ := trodAll_cons hA
  obtain ⟨v1, vs1, d1, ds1, p1, q1, rfl, rfl, rfl, h1, r1⟩ := trodAll_cons r0
  obtain ⟨v2, vs2, d2, ds2, p2, q2, rfl, rfl, rfl, h2, r2⟩ := trodAll_cons r1
  obtain ⟨v3, vs3, d3, ds3, p3, q3, rfl, rfl, rfl, h3, r3⟩ := trodAll_cons r2
  obtain ⟨rfl, rfl, rfl⟩ := trodAll_nil r3
  obtain rfl : args = #[v0, v1, v2, v3] := by cases args; simp_all
  obtain ⟨rfl, rfl⟩ := trodVars_none hV
  have k0 := h0
  have lt0 : ∀ x ∈ p0, x.block < W.heap.size := by obtain ⟨m, hm⟩ := k0; exact DataW.trod_lt m _ _ _ hm
  obtain ⟨a0, rfl, _, _, w0⟩ := open_int Try.underlying3 (hval 0 3 v0 rfl rfl) h0
  have k1 := h1
  have lt1 : ∀ x ∈ p1, x.block < W.heap.size := by obtain ⟨m, hm⟩ := k1; exact DataW.trod_lt m _ _ _ hm
  obtain ⟨a1, rfl, _, _, w1⟩ := open_int Try.underlying3 (hval 1 3 v1 rfl rfl) h1
  have k2 := h2
  have lt2 : ∀ x ∈ p2, x.block < W.heap.size := by obtain ⟨m, hm⟩ := k2; exact DataW.trod_lt m _ _ _ hm
  obtain ⟨a2, len2, cap2, e2⟩ := okWide_slice Try.underlying22 (hval 2 22 v2 rfl rfl)
  have m2 : Mat W (.sl (.sl rdTy)) [v2] := by obtain ⟨fuel, hf⟩ := h2; exact mat_cell e2 (mat_of_trod 12 22 (.sl (.sl rdTy)) fuel _ _ (by kernel_rfl) hf)
  obtain ⟨x2, hx2⟩ := mat_ss m2
  have k3 := h3
  have lt3 : ∀ x ∈ p3, x.block < W.heap.size := by obtain ⟨m, hm⟩ := k3; exact DataW.trod_lt m _ _ _ hm
  obtain ⟨s3, rfl, _, _, w3⟩ := open_string Try.underlying9 (hval 3 9 v3 rfl rfl) h3
  clear hA0 hval0
  have hwalk := law_calls (P := Try.prog) (N := N) (k := 3) (f := 3) (w := W) rfl (c3 _ _ _ ⟨a0, a1, v2, x2, s3.data.toList, by rw [str_of], hx2, fun _ hle => ⟨rfl, hle⟩⟩)
  refine hwalk.mono fun e W' ⟨he, bel⟩ => ?_
  subst he
  exact ⟨_, rfl, _, _, _, [], _, [], hW', trodAll_mk1 (shut_bool Try.underlying4 _), (trodAll_cons_mk (Below.trod laidOut (by kernel_rfl) (of_decide_eq_true (by kernel_rfl)) k0 bel lt0) (trodAll_cons_mk (Below.trod laidOut (by kernel_rfl) (of_decide_eq_true (by kernel_rfl)) k1 bel lt1) (trodAll_cons_mk (Below.trod laidOut (by kernel_rfl) (of_decide_eq_true (by kernel_rfl)) k2 bel lt2) (trodAll_cons_mk (Below.trod laidOut (by kernel_rfl) (of_decide_eq_true (by kernel_rfl)) k3 bel lt3) trodAll_mk0)))), rfl, bel.frame _, fun h => by cases h⟩

theorem over : Rows.trackSaysRow.holds Try.pinned (OpenSpec.ofChange Rows.trackSaysSpec) :=
  OpenClaim.holds_of_wide 3 Try.f3 rfl rfl rfl rfl rfl rfl rfl ⟨rfl, rfl, rfl, rfl, rfl⟩ rfl rfl rfl rfl rfl (by kernel_rfl) Try.func3 (by kernel_rfl)
    (of_decide_eq_true (by kernel_rfl)) (by unfold Func.isWrapper; first | (rw [if_pos (by decide +kernel)]; kernel_rfl) | (rw [if_neg (of_decide_eq_false (by kernel_rfl))]; exact ⟨rfl, rfl⟩))
    (fun os started H enc _ => lifted os started H enc)
end Go.Proofs.Ythhepmakjimhlaa.CwTrackSays
namespace Go.Proofs.Ythhepmakjimhlaa
theorem trackSays_holds : Rows.TrackSaysSaid := CwTrackSays.over
#print axioms trackSays_holds
end Go.Proofs.Ythhepmakjimhlaa
