/- TopInside returns true whatever it is given, and all its arguments read as before. No condition on the input. -/
import Derived.Test.YthhepmakjimhlabCwS
import Derived.WalkKit
import Derived.ProofKit
import Derived.OpenShut
import Derived.ShutString
import Derived.ChangeOld
import Derived.Below
namespace Go.Proofs
open Go.Shelf
def Try.lays192_ren : Shelf.Ren := ⟨λ|192=>17|190=>23|125=>26|258=>25|128=>36|129=>37|302=>27|303=>28|304=>29|305=>30|306=>31|307=>32|308=>33|309=>34|310=>35|333=>38|329=>39|330=>40|334=>41|335=>42|336=>43|344=>44|n=>n,λ|31=>62|0=>0|9=>9|3=>3|46=>68|51=>90|53=>67|4=>4|183=>82|182=>81|131=>87|5=>5|218=>92|222=>96|228=>98|229=>99|n=>n,λ n=>n⟩
theorem Try.lays192 : Lays.n192 Try.prog Try.lays192_ren:=by repeat'(first|(intros;kernel_rfl)|constructor)

end Go.Proofs
namespace Go.Proofs.Ythhepmakjimhlab.CwTopInside
open Go Go.Cw Go.Proofs Go.ChangeShapes Go.WideShapes Go.ChangeAt Go.RowKit
open Go.ChangeMaps (open_string shut_string)
set_option linter.unusedVariables false

theorem own : ownKnob Try.prog.godebug = none := by kernel_rfl
theorem laidOut : laidOutB Try.prog = true := by kernel_rfl

abbrev G : Ctx := GF Try.prog N
theorem c12 : Sat S12 (G 12) := Sat.of has12 F12_ok
theorem c28 : Sat (S28 N) (G 28) := Sat.of has28 F28_ok
theorem c60 : Sat S60 (G 60) := Sat.of has60 F60_ok
theorem c29 : Sat (S29 N) (G 29) := Sat.of has29 (F29_ok c60)
theorem c30 : Sat (S30 N) (G 30) := Sat.of has30 F30_ok
theorem c31 : Sat S31 (G 31) := Sat.of has31 F31_ok
theorem c54 : Sat (S54 N) (G 54) := Sat.of has54 F54_ok
theorem c117 : Sat S117 (G 117) := Sat.of has117 F117_ok
theorem c107 : Sat S107 (G 107) := Sat.of has107 F107_ok
theorem c108 : Sat (S108 N) (G 108) := Sat.of has108 (F108_ok c107 c117)
theorem c106 : Sat S106 (G 106) := Sat.of has106 F106_ok
theorem c81 : Sat (S81 N) (G 81) := Sat.of has81 (F81_ok c106 c107 c108)
theorem c66 : Sat S66 (G 66) := Sat.of has66 (F66_ok c81)
theorem c68 : Sat S68 (G 68) := Sat.of has68 (F68_ok c30)
theorem c44 : Sat (S44 N) (G 44) := Sat.of has44 F44_ok
theorem c47 : Sat S47 (G 47) := Sat.of has47 F47_ok
theorem c49 : Sat (S49 N) (G 49) := Sat.of has49 F49_ok
theorem c67 : Sat S67 (G 67) := fun args h K hx => ⟨⟨Try.f17, Try.func17, by kernel_rfl, by kernel_rfl⟩, fun w hs => c67_of Try.lays192 args h K hx w hs⟩
theorem c46 : Sat S46 (G 46) := Sat.of has46 (F46_ok c31 c54 c66 c67 c68)
theorem c288 : Sat S288 (G 288) := Sat.of has288 (F288_ok c12 c28 c44 c29 c46 c54 c49 c81 c30 c47)

set_option maxRecDepth 100000 in
theorem lifted (os : Os) (started : os.Started) (H : Type) (enc : TypeId × Value → H) :
    ReturnsInHanded {} Try.checked os 3 .any (Rows.topInsideSpec.pre6 enc Try.prog Try.f3 Rows.topInsideRow.domain false) (Rows.topInsideSpec.post enc Try.prog Try.f3 false true false false) := by
  refine returnsInHanded_of_change (C := Try.checked) own started (by kernel_rfl) Try.func3
    (ChangeSpec.witness6 (enc := enc) (C := Try.checked) false ⟨#[], #[.int .i64 0, .int .i64 0, .int .i64 0, .int .i64 0, .slice none 0 0], []⟩ 8 (by kernel_rfl) (by kernel_rfl) (by kernel_rfl) (by kernel_rfl)) ?_
  intro W base args ds gs before hval0 hW hcnd _
  have hval : ∀ (j : Nat) t v, Try.f3.params[j]? = some t → args[j]? = some v → Value.okWide Try.prog W .any base t v := hval0
  have hW' := hW
  obtain ⟨p, q, hA0, hV, rfl, hfz, hnd⟩ := hW
  have hA : DataW.TrodAll enc Try.prog W 0 (fun _ => true) true Try.f3.params.toList args.toList ds p := hA0
  rw [Try.params3] at hA hval
  obtain ⟨v0, vs0, d0, ds0, p0, q0, hargs, rfl, rfl, h0, r0⟩ := trodAll_cons hA
  obtain ⟨v1, vs1, d1, ds1, p1, q1, rfl, rfl, rfl, h1, r1⟩ := trodAll_cons r0
  obtain ⟨v2, vs2, d2, ds2, p2, q2, rfl, rfl, rfl, h2, r2⟩ := trodAll_cons r1
  obtain ⟨v3, vs3, d3, ds3, p3, q3, rfl, rfl, rfl, h3, r3⟩ := trodAll_cons r2
  obtain ⟨v4, vs4, d4, ds4, p4, q4, rfl, rfl, rfl, h4, r4⟩ := trodAll_cons r3
  obtain ⟨rfl, rfl, rfl⟩ := trodAll_nil r4
  obtain rfl : args = #[v0, v1, v2, v3, v4] := by cases args; simp_all
  obtain ⟨rfl, rfl⟩ := trodVars_none hV
  have k0 := h0
  have lt0 : ∀ x ∈ p0, x.block < W.heap.size := by obtain ⟨m, hm⟩ := k0; exact DataW.trod_lt m _ _ _ hm
  obtain ⟨a0, rfl, _, _, w0⟩ := open_int Try.underlying3 (hval 0 3 v0 rfl rfl) h0
  have k1 := h1
  have lt1 : ∀ x ∈ p1, x.block < W.heap.size := by obtain ⟨m, hm⟩ := k1; exact DataW.trod_lt m _ _ _ hm
  obtain ⟨a1, rfl, _, _, w1⟩ := open_int Try.underlying3 (hval 1 3 v1 rfl rfl) h1
  have k2 := h2
  have lt2 : ∀ x ∈ p2, x.block < W.heap.size := by obtain ⟨m, hm⟩ := k2; exact DataW.trod_lt m _ _ _ hm
  obtain ⟨a2, rfl, _, _, w2⟩ := open_int Try.underlying3 (hval 2 3 v2 rfl rfl) h2
  have k3 := h3
  have lt3 : ∀ x ∈ p3, x.block < W.heap.size := by obtain ⟨m, hm⟩ := k3; exact DataW.trod_lt m _ _ _ hm
  obtain ⟨a3, rfl, _, _, w3⟩ := open_int Try.underlying3 (hval 3 3 v3 rfl rfl) h3
  have k4 := h4
  have lt4 : ∀ x ∈ p4, x.block < W.heap.size := by obtain ⟨m, hm⟩ := k4; exact DataW.trod_lt m _ _ _ hm
  obtain ⟨a4, len4, cap4, e4⟩ := okWide_slice Try.underlying22 (hval 4 22 v4 rfl rfl)
  have m4 : Mat W (.sl (.sl rdTy)) [v4] := by obtain ⟨fuel, hf⟩ := h4; exact mat_cell e4 (mat_of_trod 12 22 (.sl (.sl rdTy)) fuel _ _ (by kernel_rfl) hf)
  obtain ⟨x4, hx4⟩ := mat_ss m4
  clear hA0 hval0
  have hwalk := law_calls (P := Try.prog) (N := N) (k := 288) (f := 3) (w := W) rfl (c288 _ _ _ ⟨a0, a1, a2, a3, v4, x4, rfl, hx4, fun _ hle => ⟨rfl, hle⟩⟩)
  refine hwalk.mono fun e W' ⟨he, bel⟩ => ?_
  subst he
  exact ⟨_, rfl, _, _, _, [], _, [], hW', trodAll_mk1 (shut_bool Try.underlying4 _), (trodAll_cons_mk (Below.trod laidOut (by kernel_rfl) (of_decide_eq_true (by kernel_rfl)) k0 bel lt0) (trodAll_cons_mk (Below.trod laidOut (by kernel_rfl) (of_decide_eq_true (by kernel_rfl)) k1 bel lt1) (trodAll_cons_mk (Below.trod laidOut (by kernel_rfl) (of_decide_eq_true (by kernel_rfl)) k2 bel lt2) (trodAll_cons_mk (Below.trod laidOut (by kernel_rfl) (of_decide_eq_true (by kernel_rfl)) k3 bel lt3) (trodAll_cons_mk (Below.trod laidOut (by kernel_rfl) (of_decide_eq_true (by kernel_rfl)) k4 bel lt4) trodAll_mk0))))), rfl, bel.frame _, fun h => by cases h⟩

theorem over : Rows.topInsideRow.holds Try.pinned (OpenSpec.ofChange Rows.topInsideSpec) :=
  OpenClaim.holds_of_wide 3 Try.f3 rfl rfl rfl rfl rfl rfl rfl ⟨rfl, rfl, rfl, rfl, rfl⟩ rfl rfl rfl rfl rfl (by kernel_rfl) Try.func3 (by kernel_rfl)
    (of_decide_eq_true (by kernel_rfl)) (by unfold Func.isWrapper; first | (rw [if_pos (by decide +kernel)]; kernel_rfl) | (rw [if_neg (of_decide_eq_false (by kernel_rfl))]; exact ⟨rfl, rfl⟩))
    (fun os started H enc _ => lifted os started H enc)
end Go.Proofs.Ythhepmakjimhlab.CwTopInside
namespace Go.Proofs.Ythhepmakjimhlab
theorem topInside_holds : Rows.TopInsideSaid := CwTopInside.over
#print axioms topInside_holds
end Go.Proofs.Ythhepmakjimhlab
