/- InsideSays returns true whatever it is given, and all its arguments read as before. No condition on the input. -/
import Derived.Test.YthhepmakjimhlaaCwS
import Derived.WalkKit
import Derived.ProofKit
import Derived.OpenShut
import Derived.ShutString
import Derived.ChangeOld
import Derived.Below
namespace Go.Proofs
open Go.Shelf
def Try.lays192_ren : Shelf.Ren := ⟨λ|192=>67|190=>82|125=>76|258=>109|128=>96|129=>97|302=>118|303=>119|304=>120|305=>121|306=>122|307=>123|308=>124|309=>125|310=>126|333=>130|329=>131|330=>132|334=>133|335=>134|336=>135|344=>136|n=>n,λ|31=>29|0=>0|9=>9|3=>3|46=>158|51=>176|53=>178|4=>4|183=>205|182=>204|131=>171|5=>5|218=>214|222=>200|228=>217|229=>104|n=>n,λ n=>n⟩
theorem Try.lays192 : Lays.n192 Try.prog Try.lays192_ren:=by repeat'(first|(intros;kernel_rfl)|constructor)

end Go.Proofs
namespace Go.Proofs.Ythhepmakjimhlaa.CwInsideSays
open Go Go.Cw Go.Proofs Go.ChangeShapes Go.WideShapes Go.ChangeAt Go.RowKit
open Go.ChangeMaps (open_string shut_string)
set_option linter.unusedVariables false

theorem own : ownKnob Try.prog.godebug = none := by kernel_rfl
theorem laidOut : laidOutB Try.prog = true := by kernel_rfl

abbrev G : Ctx := GF Try.prog N
theorem c12 : Sat S12t (G 12) := Sat.of has12 F12t_ok
theorem c19 : Sat (S19 N) (G 19) := Sat.of has19 F19_ok
theorem c28 : Sat (S28 N) (G 28) := Sat.of has28 F28_ok
theorem c60 : Sat S60 (G 60) := Sat.of has60 F60_ok
theorem c29 : Sat (S29 N) (G 29) := Sat.of has29 (F29_ok c60)
theorem c30 : Sat (S30 N) (G 30) := Sat.of has30 F30_ok
theorem c31 : Sat S31 (G 31) := Sat.of has31 F31_ok
theorem c111 : Sat S111 (G 111) := Sat.of has111 F111_ok
theorem c86 : Sat S86 (G 86) := Sat.of has86 (F86_ok c111)
theorem c85 : Sat S85 (G 85) := Sat.of has85 F85_ok
theorem c70 : Sat S70 (G 70) := Sat.of has70 (F70_ok c85 c86)
theorem c51 : Sat S51 (G 51) := Sat.of has51 F51_ok
theorem c45 : Sat S45 (G 45) := Sat.of has45 F45_ok
theorem c14 : Sat S14 (G 14) := Sat.of has14 F14_ok
theorem c54 : Sat (S54 N) (G 54) := Sat.of has54 F54_ok
theorem c13 : Sat (S13 N) (G 13) := Sat.of has13 (F13_ok c28 c19 c51 c45 c29 c31)
theorem c79 : Sat S79 (G 79) := Sat.of has79 F79_ok
theorem c117 : Sat S117 (G 117) := Sat.of has117 F117_ok
theorem c107 : Sat S107 (G 107) := Sat.of has107 F107_ok
theorem c128 : Sat S128 (G 128) := Sat.of has128 (F128_ok c79 c85)
theorem c108 : Sat (S108 N) (G 108) := Sat.of has108 (F108_ok c107 c117)
theorem c127 : Sat S127 (G 127) := Sat.of has127 F127_ok
theorem c110 : Sat S110 (G 110) := Sat.of has110 (F110_ok c127 c79 c128)
theorem c106 : Sat S106 (G 106) := Sat.of has106 F106_ok
theorem c81 : Sat (S81 N) (G 81) := Sat.of has81 (F81_ok c106 c107 c108)
theorem c83 : Sat S83 (G 83) := Sat.of has83 (F83_ok c110)
theorem c66 : Sat S66 (G 66) := Sat.of has66 (F66_ok c81)
theorem c80 : Sat S80 (G 80) := Sat.of has80 F80_ok
theorem c65 : Sat S65 (G 65) := Sat.of has65 (F65_ok c79 c80)
theorem c84 : Sat S84 (G 84) := Sat.of has84 (F84_ok c70)
theorem c68 : Sat S68 (G 68) := Sat.of has68 (F68_ok c30)
theorem c43 : Sat S43 (G 43) := Sat.of has43 F43_ok
theorem c69 : Sat S69 (G 69) := Sat.of has69 (F69_ok c14 c83 c84)
theorem c48 : Sat S48 (G 48) := Sat.of has48 (F48_ok c69)
theorem c44 : Sat (S44 N) (G 44) := Sat.of has44 F44_ok
theorem c47 : Sat S47 (G 47) := Sat.of has47 F47_ok
theorem c49 : Sat (S49 N) (G 49) := Sat.of has49 F49_ok
theorem c67 : Sat S67 (G 67) := fun args h K hx => ⟨⟨Try.f67, Try.func67, by kernel_rfl, by kernel_rfl⟩, fun w hs => c67_of Try.lays192 args h K hx w hs⟩
theorem c46 : Sat S46 (G 46) := Sat.of has46 (F46_ok c31 c54 c66 c67 c68)
theorem c42 : Sat S42 (G 42) := Sat.of has42 (F42_ok c28 c65 c44 c29 c46 c49 c19 c47)
theorem c9 : Sat S9 (G 9) := Sat.of has9 (F9_ok c42 c12 c43 c13 c44 c19 c45 c29 c46 c47 c14 c48 c49)

set_option maxRecDepth 100000 in
theorem lifted (os : Os) (started : os.Started) (H : Type) (enc : TypeId × Value → H) :
    ReturnsInHanded {} Try.checked os 9 .any (Rows.insideSaysSpec.pre6 enc Try.prog Try.f9 Rows.insideSaysRow.domain false) (Rows.insideSaysSpec.post enc Try.prog Try.f9 false true false false) := by
  refine returnsInHanded_of_change (C := Try.checked) own started (by kernel_rfl) Try.func9
    (ChangeSpec.witness6 (enc := enc) (C := Try.checked) false ⟨#[], #[.int .i64 0, .int .i64 0, .int .i64 0, .int .i64 0, .slice none 0 0, .string .empty], []⟩ 8 (by kernel_rfl) (by kernel_rfl) (by kernel_rfl) (by kernel_rfl)) ?_
  intro W base args ds gs before hval0 hW hcnd _
  have hval : ∀ (j : Nat) t v, Try.f9.params[j]? = some t → args[j]? = some v → Value.okWide Try.prog W .any base t v := hval0
  have hW' := hW
  obtain ⟨p, q, hA0, hV, rfl, hfz, hnd⟩ := hW
  have hA : DataW.TrodAll enc Try.prog W 0 (fun _ => true) true Try.f9.params.toList args.toList ds p := hA0
  rw [Try.params9] at hA hval
  obtain ⟨v0, vs0, d0, ds0, p0, q0, hargs, rfl, rfl, h0, r0⟩ := trodAll_cons hA
  obtain ⟨v1, vs1, d1, ds1, p1, q1, rfl, rfl, rfl, h1, r1⟩ := trodAll_cons r0
  obtain ⟨v2, vs2, d2, ds2, p2, q2, rfl, rfl, rfl, h2, r2⟩ := trodAll_cons r1
  obtain ⟨v3, vs3, d3, ds3, p3, q3, rfl, rfl, rfl, h3, r3⟩ := trodAll_cons r2
  obtain ⟨v4, vs4, d4, ds4, p4, q4, rfl, rfl, rfl, h4, r4⟩ := trodAll_cons r3
  obtain ⟨v5, vs5, d5, ds5, p5, q5, rfl, rfl, rfl, h5, r5⟩ := trodAll_cons r4
  obtain ⟨rfl, rfl, rfl⟩ := trodAll_nil r5
  obtain rfl : args = #[v0, v1, v2, v3, v4, v5] := by cases args; simp_all
  obtain ⟨rfl, rfl⟩ := trodVars_none hV
  have k0 := h0
  have lt0 : ∀ x ∈ p0, x.block < W.heap.size := by obtain ⟨m, hm⟩ := k0; exact DataW.trod_lt m _ _ _ hm
  obtain ⟨a0, rfl, _, _, w0⟩ := open_int Try.underlying3 (hval 0 3 v0 rfl rfl) h0
  have k1 := h1
  have lt1 : ∀ x ∈ p1, x.block < W.heap.size := by obtain ⟨m, hm⟩ := k1; exact DataW.trod_lt m _ _ _ hm
  obtain ⟨a1, rfl, _, _, w1⟩ := open_int Try.underlying3 (hval 1 3 v1 rfl rfl) h1
  have k2 := h2
  have lt2 : ∀ x ∈ p2, x.block < W.heap.size := by obtain ⟨m, hm⟩ := k2; exact DataW.trod_lt m _ _ _ hm
  obtain ⟨a2, rfl, _, _, w2⟩ := open_int Try.underlying3 (hval 2 3 v2 rfl rfl) h2
  have k3 := h3
  have lt3 : ∀ x ∈ p3, x.block < W.heap.size := by obtain ⟨m, hm⟩ := k3; exact DataW.trod_lt m _ _ _ hm
  obtain ⟨a3, rfl, _, _, w3⟩ := open_int Try.underlying3 (hval 3 3 v3 rfl rfl) h3
  have k4 := h4
  have lt4 : ∀ x ∈ p4, x.block < W.heap.size := by obtain ⟨m, hm⟩ := k4; exact DataW.trod_lt m _ _ _ hm
  obtain ⟨a4, len4, cap4, e4⟩ := okWide_slice Try.underlying22 (hval 4 22 v4 rfl rfl)
  have m4 : Mat W (.sl (.sl rdTy)) [v4] := by obtain ⟨fuel, hf⟩ := h4; exact mat_cell e4 (mat_of_trod 12 22 (.sl (.sl rdTy)) fuel _ _ (by kernel_rfl) hf)
  obtain ⟨x4, hx4⟩ := mat_ss m4
  have k5 := h5
  have lt5 : ∀ x ∈ p5, x.block < W.heap.size := by obtain ⟨m, hm⟩ := k5; exact DataW.trod_lt m _ _ _ hm
  obtain ⟨s5, rfl, _, _, w5⟩ := open_string Try.underlying9 (hval 5 9 v5 rfl rfl) h5
  clear hA0 hval0
  have hwalk := law_calls (P := Try.prog) (N := N) (k := 9) (f := 9) (w := W) rfl (c9 _ _ _ ⟨a0, a1, a2, a3, v4, x4, s5.data.toList, by rw [str_of], hx4, fun _ hle => ⟨rfl, hle⟩⟩)
  refine hwalk.mono fun e W' ⟨he, bel⟩ => ?_
  subst he
  exact ⟨_, rfl, _, _, _, [], _, [], hW', trodAll_mk1 (shut_bool Try.underlying4 _), (trodAll_cons_mk (Below.trod laidOut (by kernel_rfl) (of_decide_eq_true (by kernel_rfl)) k0 bel lt0) (trodAll_cons_mk (Below.trod laidOut (by kernel_rfl) (of_decide_eq_true (by kernel_rfl)) k1 bel lt1) (trodAll_cons_mk (Below.trod laidOut (by kernel_rfl) (of_decide_eq_true (by kernel_rfl)) k2 bel lt2) (trodAll_cons_mk (Below.trod laidOut (by kernel_rfl) (of_decide_eq_true (by kernel_rfl)) k3 bel lt3) (trodAll_cons_mk (Below.trod laidOut (by kernel_rfl) (of_decide_eq_true (by kernel_rfl)) k4 bel lt4) (trodAll_cons_mk (Below.trod laidOut (by kernel_rfl) (of_decide_eq_true (by kernel_rfl)) k5 bel lt5) trodAll_mk0)))))), rfl, bel.frame _, fun h => by cases h⟩

theorem over : Rows.insideSaysRow.holds Try.pinned (OpenSpec.ofChange Rows.insideSaysSpec) :=
  OpenClaim.holds_of_wide 9 Try.f9 rfl rfl rfl rfl rfl rfl rfl ⟨rfl, rfl, rfl, rfl, rfl⟩ rfl rfl rfl rfl rfl (by kernel_rfl) Try.func9 (by kernel_rfl)
    (of_decide_eq_true (by kernel_rfl)) (by unfold Func.isWrapper; first | (rw [if_pos (by decide +kernel)]; kernel_rfl) | (rw [if_neg (of_decide_eq_false (by kernel_rfl))]; exact ⟨rfl, rfl⟩))
    (fun os started H enc _ => lifted os started H enc)
end Go.Proofs.Ythhepmakjimhlaa.CwInsideSays
namespace Go.Proofs.Ythhepmakjimhlaa
theorem insideSays_holds : Rows.InsideSaysSaid := CwInsideSays.over
#print axioms insideSays_holds
end Go.Proofs.Ythhepmakjimhlaa
