/- TopEpochs returns true whatever it is given, and all its arguments read as before. No condition on the input. -/
import Derived.Test.YthhepmakjimhlaaCwS
import Derived.WalkKit
import Derived.ProofKit
import Derived.OpenShut
import Derived.ShutString
import Derived.ChangeOld
import Derived.Below
import Derived.Ground.GgsProg
import Derived.Ground.NamesProg
namespace Go.Proofs
open Go.Shelf
def Try.lays6_ren : Shelf.Ren := ⟨λ|6=>61|10=>73|11=>74|12=>75|13=>76|14=>77|24=>96|25=>97|26=>98|27=>99|28=>100|29=>101|30=>102|31=>103|32=>104|33=>105|34=>112|35=>113|36=>114|37=>115|38=>116|39=>129|n=>n,λ|20=>20|26=>132|35=>153|0=>0|37=>155|3=>3|41=>158|44=>161|49=>176|51=>178|4=>4|54=>181|53=>180|58=>171|5=>5|9=>9|60=>196|64=>200|66=>212|67=>104|17=>17|32=>150|33=>151|82=>232|12=>12|75=>225|76=>226|77=>227|78=>228|79=>229|80=>230|n=>n,λ n=>n⟩
theorem Try.lays6 : LaysGg.n6 Try.prog Try.lays6_ren:=by repeat'(first|(intros;kernel_rfl)|constructor)

def Try.lays125_ren : Shelf.Ren := ⟨λ|125=>76|128=>96|129=>97|n=>n,λ|46=>158|3=>3|51=>176|53=>178|4=>4|5=>5|9=>9|n=>n,λ n=>n⟩
theorem Try.lays125 : Lays.n125 Try.prog Try.lays125_ren:=by repeat'(first|(intros;kernel_rfl)|constructor)

noncomputable def Try.svT : TypeInfo := (Try.prog.info? 64).get (by kernel_rfl)
noncomputable def Try.svE : TypeInfo := (Try.prog.info? 66).get (by kernel_rfl)
end Go.Proofs
namespace Go.Proofs.Ythhepmakjimhlaa.CwTopEpochs
open Go Go.Cw Go.Proofs Go.ChangeShapes Go.WideShapes Go.ChangeAt Go.RowKit
open Go.ChangeMaps (open_string shut_string)
set_option linter.unusedVariables false

theorem own : ownKnob Try.prog.godebug = none := by kernel_rfl
theorem laidOut : laidOutB Try.prog = true := by kernel_rfl

abbrev G : Ctx := GF Try.prog N
theorem c76 : Sat S76 (G 76) := fun args h K hx => .inl ⟨⟨Try.f76, Try.func76, by kernel_rfl, by kernel_rfl⟩, fun w hs => c76_of Try.lays125 args h K hx w hs⟩
theorem c98 : Sat (S98 N G) (G 98) := Sat.of has98 F98_ok
theorem c112 : Sat (S112 N G) (G 112) := Sat.of has112 F112_ok
theorem c99 : Sat (S99 N G) (G 99) := Sat.of has99 (F99_ok c112)
theorem c113 : Sat S113 (G 113) := Sat.of has113 (F113_ok c76)
theorem c114 : Sat S114 (G 114) := Sat.of has114 F114_ok
theorem c100 : Sat (S100 N G) (G 100) := Sat.of has100 (F100_ok c113 c114)
theorem c129 : Sat (S129 N G) (G 129) := Sat.of has129 F129_ok
theorem c116 : Sat (S116 N G) (G 116) := Sat.of has116 (F116_ok c129)
theorem c115 : Sat (S115 N G) (G 115) := Sat.of has115 (F115_ok c116)
theorem c101 : Sat (S101 N G) (G 101) := Sat.of has101 (F101_ok c115 c116)
theorem c102 : Sat (S102 N G) (G 102) := Sat.of has102 F102_ok
theorem c103 : Sat (S103 N G) (G 103) := Sat.of has103 F103_ok
theorem c104 : Sat (S104 N G) (G 104) := Sat.of has104 F104_ok
theorem c105 : Sat (S105 N G) (G 105) := Sat.of has105 F105_ok
theorem c77 : ∀ n, Sat (S77 N G n) (G 77) := fun n => Nat.strongRecOn n fun n ih => Sat.of has77 (F77_ok n (fun m hm => ih m hm) c98 c99 c100 c101 c102 c103 c104 c105)
theorem c61 : Sat (S61 N G) (G 61) := fun args h K hx => .inl ⟨⟨Try.f61, Try.func61, by kernel_rfl, by kernel_rfl⟩, fun w hs => c61_of Try.lays6 66 Try.svT Try.svE (by kernel_rfl) (by kernel_rfl) (by kernel_rfl) (by kernel_rfl) 25 (fun _ => by kernel_rfl) rfl c77 Try.func77 (by kernel_rfl) 87 88 95 (by kernel_rfl) (by kernel_rfl) (by kernel_rfl) (by kernel_rfl) (fun _ => by kernel_rfl) false (fun args W => run_callFunc_extern Try.func95 (by kernel_rfl) (by kernel_rfl) (by kernel_rfl) (e := Extern.ReflectliteSwapper.swap false) (by kernel_rfl) args W) args h K hx w hs⟩
theorem c63 : Sat S63 (G 63) := Sat.of has63 F63_ok
theorem c62 : Sat S62 (G 62) := Sat.of has62 (F62_ok c63)
theorem c33 : Sat (S33 N) (G 33) := Sat.of has33 F33_ok
theorem c37 : Sat (S37 N) (G 37) := Sat.of has37 F37_ok
theorem c34 : Sat (S34 N) (G 34) := Sat.of has34 (F34_ok c62 c61)
theorem c39 : Sat S39 (G 39) := Sat.of has39 F39_ok
theorem c40 : Sat S40 (G 40) := Sat.of has40 F40_ok
theorem c36 : Sat S36 (G 36) := Sat.of has36 F36_ok
theorem c10 : Sat S10 (G 10) := Sat.of has10 (F10_ok c33 c34 c36 c37 c39 c40)

set_option maxRecDepth 100000 in
theorem lifted (os : Os) (started : os.Started) (H : Type) (enc : TypeId × Value → H) :
    ReturnsInHanded {} Try.checked os 10 .any (Rows.topEpochsSpec.pre6 enc Try.prog Try.f10 Rows.topEpochsRow.domain false) (Rows.topEpochsSpec.post enc Try.prog Try.f10 false true false false) := by
  refine returnsInHanded_of_change (C := Try.checked) own started (by kernel_rfl) Try.func10
    (ChangeSpec.witness6 (enc := enc) (C := Try.checked) false ⟨#[], #[.int .i64 0, .int .i64 0, .slice none 0 0], []⟩ 8 (by kernel_rfl) (by kernel_rfl) (by kernel_rfl) (by kernel_rfl)) ?_
  intro W base args ds gs before hval0 hW hcnd _
  have hval : ∀ (j : Nat) t v, Try.f10.params[j]? = some t → args[j]? = some v → Value.okWide Try.prog W .any base t v := hval0
  have hW' := hW
  obtain ⟨p, q, hA0, hV, rfl, hfz, hnd⟩ := hW
  have hA : DataW.TrodAll enc Try.prog W 0 (fun _ => true) true Try.f10.params.toList args.toList ds p := hA0
  rw [Try.params10] at hA hval
  obtain ⟨v0, vs0, d0, ds0, p0, q0, hargs, rfl, rfl, h0, r0⟩ := trodAll_cons hA
  obtain ⟨v1, vs1, d1, ds1, p1, q1, rfl, rfl, rfl, h1, r1⟩ := trodAll_cons r0
  obtain ⟨v2, vs2, d2, ds2, p2, q2, rfl, rfl, rfl, h2, r2⟩ := trodAll_cons r1
  obtain ⟨rfl, rfl, rfl⟩ := trodAll_nil r2
  obtain rfl : args = #[v0, v1, v2] := by cases args; simp_all
  obtain ⟨rfl, rfl⟩ := trodVars_none hV
  have k0 := h0
  have lt0 : ∀ x ∈ p0, x.block < W.heap.size := by obtain ⟨m, hm⟩ := k0; exact DataW.trod_lt m _ _ _ hm
  obtain ⟨a0, rfl, _, _, w0⟩ := open_int Try.underlying3 (hval 0 3 v0 rfl rfl) h0
  have k1 := h1
  have lt1 : ∀ x ∈ p1, x.block < W.heap.size := by obtain ⟨m, hm⟩ := k1; exact DataW.trod_lt m _ _ _ hm
  obtain ⟨a1, rfl, _, _, w1⟩ := open_int Try.underlying3 (hval 1 3 v1 rfl rfl) h1
  have k2 := h2
  have lt2 : ∀ x ∈ p2, x.block < W.heap.size := by obtain ⟨m, hm⟩ := k2; exact DataW.trod_lt m _ _ _ hm
  obtain ⟨a2, len2, cap2, e2⟩ := okWide_slice Try.underlying71 (hval 2 71 v2 rfl rfl)
  have m2 : Mat W (.sl acTy) [v2] := by obtain ⟨fuel, hf⟩ := h2; exact mat_cell e2 (mat_of_trod 12 71 (.sl acTy) fuel _ _ (by kernel_rfl) hf)
  obtain ⟨x2, hx2⟩ := mat_acs m2
  clear hA0 hval0
  have hwalk := law_calls (P := Try.prog) (N := N) (k := 10) (f := 10) (w := W) rfl Try.func10 (by kernel_rfl) (c10 _ _ _ ⟨a0, a1, v2, x2, rfl, hx2, fun _ hle => ⟨rfl, hle⟩⟩)
  refine hwalk.mono fun e W' ⟨he, bel⟩ => ?_
  subst he
  exact ⟨_, rfl, _, _, _, [], _, [], hW', trodAll_mk1 (shut_bool Try.underlying4 _), (trodAll_cons_mk (Below.trod laidOut (by kernel_rfl) (of_decide_eq_true (by kernel_rfl)) k0 bel lt0) (trodAll_cons_mk (Below.trod laidOut (by kernel_rfl) (of_decide_eq_true (by kernel_rfl)) k1 bel lt1) (trodAll_cons_mk (Below.trod laidOut (by kernel_rfl) (of_decide_eq_true (by kernel_rfl)) k2 bel lt2) trodAll_mk0))), rfl, bel.frame _, fun h => by cases h⟩

theorem over : Rows.topEpochsRow.holds Try.pinned (OpenSpec.ofChange Rows.topEpochsSpec) :=
  OpenClaim.holds_of_wide 10 Try.f10 rfl rfl rfl rfl rfl rfl rfl ⟨rfl, rfl, rfl, rfl, rfl⟩ rfl rfl rfl rfl rfl (by kernel_rfl) Try.func10 (by kernel_rfl)
    (of_decide_eq_true (by kernel_rfl)) (by unfold Func.isWrapper; first | (rw [if_pos (by decide +kernel)]; kernel_rfl) | (rw [if_neg (of_decide_eq_false (by kernel_rfl))]; exact ⟨rfl, rfl⟩))
    (fun os started H enc _ => lifted os started H enc)
end Go.Proofs.Ythhepmakjimhlaa.CwTopEpochs
namespace Go.Proofs.Ythhepmakjimhlaa
theorem topEpochs_holds : Rows.TopEpochsSaid := CwTopEpochs.over
#print axioms topEpochs_holds
end Go.Proofs.Ythhepmakjimhlaa
