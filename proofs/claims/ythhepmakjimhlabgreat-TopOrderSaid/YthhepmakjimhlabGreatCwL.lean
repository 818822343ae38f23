/- TopOrder returns true whatever it is given, and all its arguments read as before. No condition on the input. -/
import Derived.Test.YthhepmakjimhlabGreatCwS
import Derived.WalkKit
import Derived.ProofKit
import Derived.OpenShut
import Derived.ShutString
import Derived.ChangeOld
import Derived.Below
import Derived.Ground.GgsProg
import Derived.Ground.NamesProg
namespace Go.Proofs
open Go.Shelf
def Tryz.lays6_ren : Shelf.Ren := ⟨λ|6=>44|10=>60|11=>61|12=>62|13=>63|14=>64|24=>77|25=>78|26=>79|27=>80|28=>81|29=>82|30=>83|31=>84|32=>85|33=>86|34=>88|35=>89|36=>90|37=>91|38=>92|39=>102|n=>n,λ|20=>20|26=>128|35=>151|0=>0|37=>153|3=>3|41=>85|44=>158|49=>165|51=>84|4=>4|54=>169|53=>168|58=>173|5=>5|9=>9|60=>176|64=>180|66=>190|67=>191|17=>17|32=>148|33=>149|82=>211|12=>12|75=>204|76=>205|77=>206|78=>207|79=>208|80=>209|n=>n,λ n=>n⟩
theorem Tryz.lays6 : LaysGg.n6 Tryz.prog Tryz.lays6_ren:=by repeat'(first|(intros;kernel_rfl)|constructor)

def Tryz.lays125_ren : Shelf.Ren := ⟨λ|125=>63|128=>77|129=>78|n=>n,λ|46=>85|3=>3|51=>165|53=>84|4=>4|5=>5|9=>9|n=>n,λ n=>n⟩
theorem Tryz.lays125 : Lays.n125 Tryz.prog Tryz.lays125_ren:=by repeat'(first|(intros;kernel_rfl)|constructor)

def Tryz.lays192_ren : Shelf.Ren := ⟨λ|192=>50|190=>66|125=>63|258=>87|128=>77|129=>78|302=>93|303=>94|304=>95|305=>96|306=>97|307=>98|308=>99|309=>100|310=>101|333=>103|329=>104|330=>105|334=>106|335=>107|336=>108|344=>109|n=>n,λ|31=>35|0=>0|9=>9|3=>3|46=>85|51=>165|53=>84|4=>4|183=>184|182=>183|131=>173|5=>5|218=>193|222=>180|228=>196|229=>191|n=>n,λ n=>n⟩
theorem Tryz.lays192 : Lays.n192 Tryz.prog Tryz.lays192_ren:=by repeat'(first|(intros;kernel_rfl)|constructor)

noncomputable def Tryz.svT : TypeInfo := (Tryz.prog.info? 97).get (by kernel_rfl)
noncomputable def Tryz.svE : TypeInfo := (Tryz.prog.info? 54).get (by kernel_rfl)
end Go.Proofs
namespace Go.Proofs.YthhepmakjimhlabGreat.CwTopOrder
open Go Go.Cw Go.Proofs Go.ChangeShapes Go.WideShapes Go.ChangeAt Go.RowKit
open Go.ChangeMaps (open_string shut_string)
set_option linter.unusedVariables false

theorem own : ownKnob Tryz.prog.godebug = none := by kernel_rfl
theorem laidOut : laidOutB Tryz.prog = true := by kernel_rfl

abbrev G : Ctx := GF Tryz.prog N
theorem c264 : Sat S264 (G 264) := Sat.of has264 F264_ok
theorem c265 : Sat S265 (G 265) := Sat.of has265 F265_ok
theorem c33 : Sat (S33 N) (G 33) := Sat.of has33 F33_ok
theorem c28 : Sat (S28 N) (G 28) := Sat.of has28 F28_ok
theorem c44 : Sat (S44 N) (G 44) := Sat.of has44 F44_ok
theorem c186 : Sat S186 (G 186) := Sat.of has186 F186_ok
theorem c170 : Sat (S170 N) (G 170) := Sat.of has170 (F170_ok c186)
theorem c266 : Sat (S266 N) (G 266) := Sat.of has266 (F266_ok c33 c28 c44 c170)
theorem c294 : Sat S294 (G 294) := Sat.of has294 (F294_ok c265 c266)
theorem c168 : Sat S168 (G 168) := Sat.of has168 F168_ok
theorem c267 : Sat S267 (G 267) := Sat.of has267 (F267_ok c168)
theorem c56 : Sat S56 (G 56) := Sat.of has56 F56_ok
theorem c72 : Sat S72 (G 72) := Sat.of has72 F72_ok
theorem c57 : Sat S57 (G 57) := Sat.of has57 (F57_ok c56 c72)
theorem c24 : Sat S24 (G 24) := Sat.of has24 (F24_ok c57)
theorem c296 : Sat S296 (G 296) := Sat.of has296 (F296_ok c24)
theorem c106 : Sat S106 (G 106) := Sat.of has106 F106_ok
theorem c107 : Sat S107 (G 107) := Sat.of has107 F107_ok
theorem c117 : Sat S117 (G 117) := Sat.of has117 F117_ok
theorem c108 : Sat (S108 N) (G 108) := Sat.of has108 (F108_ok c107 c117)
theorem c81 : Sat (S81 N) (G 81) := Sat.of has81 (F81_ok c106 c107 c108)
theorem c39 : Sat S39 (G 39) := Sat.of has39 F39_ok
theorem c37 : Sat (S37 N) (G 37) := Sat.of has37 F37_ok
theorem c278 : Sat S278 (G 278) := Sat.of has278 (F278_ok c81 c39 c37)
theorem c271 : Sat (S271 N) (G 271) := Sat.of has271 (F271_ok c24 c278)
theorem c63 : Sat S63 (G 63) := Sat.of has63 F63_ok
theorem c62 : Sat S62 (G 62) := Sat.of has62 (F62_ok c63)
theorem c98 : Sat (S98 N G) (G 98) := Sat.of has98 F98_ok
theorem c112 : Sat (S112 N G) (G 112) := Sat.of has112 F112_ok
theorem c99 : Sat (S99 N G) (G 99) := Sat.of has99 (F99_ok c112)
theorem c76 : Sat S76 (G 76) := fun args h K hx => .inl ⟨⟨Tryz.f63, Tryz.func63, by kernel_rfl, by kernel_rfl⟩, fun w hs => c76_of Tryz.lays125 args h K hx w hs⟩
theorem c113 : Sat S113 (G 113) := Sat.of has113 (F113_ok c76)
theorem c114 : Sat S114 (G 114) := Sat.of has114 F114_ok
theorem c100 : Sat (S100 N G) (G 100) := Sat.of has100 (F100_ok c113 c114)
theorem c129 : Sat (S129 N G) (G 129) := Sat.of has129 F129_ok
theorem c116 : Sat (S116 N G) (G 116) := Sat.of has116 (F116_ok c129)
theorem c115 : Sat (S115 N G) (G 115) := Sat.of has115 (F115_ok c116)
theorem c101 : Sat (S101 N G) (G 101) := Sat.of has101 (F101_ok c115 c116)
theorem c102 : Sat (S102 N G) (G 102) := Sat.of has102 F102_ok
theorem c103 : Sat (S103 N G) (G 103) := Sat.of has103 F103_ok
theorem c104 : Sat (S104 N G) (G 104) := Sat.of has104 F104_ok
theorem c105 : Sat (S105 N G) (G 105) := Sat.of has105 F105_ok
theorem c77 : ∀ n, Sat (S77 N G n) (G 77) := fun n => Nat.strongRecOn n fun n ih => Sat.of has77 (F77_ok n (fun m hm => ih m hm) c98 c99 c100 c101 c102 c103 c104 c105)
set_option maxRecDepth 100000 in
theorem c61 : Sat (S61 N G) (G 61) := fun args h K hx => .inl ⟨⟨Tryz.f44, Tryz.func44, by kernel_rfl, by kernel_rfl⟩, fun w hs => c61_of Tryz.lays6 54 Tryz.svT Tryz.svE (by kernel_rfl) (by kernel_rfl) (by kernel_rfl) (by kernel_rfl) 25 (fun _ => by kernel_rfl) rfl c77 Tryz.func64 (by kernel_rfl) 68 69 95 (by kernel_rfl) (by kernel_rfl) (by kernel_rfl) (by kernel_rfl) (fun _ => by kernel_rfl) false (fun args W => run_callFunc_extern Tryz.func76 (by kernel_rfl) (by kernel_rfl) (by kernel_rfl) (e := Extern.ReflectliteSwapper.swap false) (by kernel_rfl) args W) args h K hx w hs⟩
theorem c34 : Sat (S34 N) (G 34) := Sat.of has34 (F34_ok c62 c61)
theorem c60 : Sat S60 (G 60) := Sat.of has60 F60_ok
theorem c29 : Sat (S29 N) (G 29) := Sat.of has29 (F29_ok c60)
theorem c31 : Sat S31 (G 31) := Sat.of has31 F31_ok
theorem c54 : Sat (S54 N) (G 54) := Sat.of has54 F54_ok
theorem c66 : Sat S66 (G 66) := Sat.of has66 (F66_ok c81)
theorem c67 : Sat S67 (G 67) := fun args h K hx => .inl ⟨⟨Tryz.f50, Tryz.func50, by kernel_rfl, by kernel_rfl⟩, fun w hs => c67_of Tryz.lays192 args h K hx w hs⟩
theorem c30 : Sat (S30 N) (G 30) := Sat.of has30 F30_ok
theorem c68 : Sat S68 (G 68) := Sat.of has68 (F68_ok c30)
theorem c46 : Sat S46 (G 46) := Sat.of has46 (F46_ok c31 c54 c66 c67 c68)
theorem c50 : Sat S50 (G 50) := Sat.of has50 (F50_ok c30)
theorem c174 : Sat (S174 N) (G 174) := Sat.of has174 (F174_ok c170 c50 c81 c30)
theorem c277 : Sat S277 (G 277) := Sat.of has277 (F277_ok c54 c67 c174)
theorem c269 : Sat (S269 N) (G 269) := Sat.of has269 (F269_ok c34 c29 c46 c277)
theorem c276 : Sat S276 (G 276) := Sat.of has276 (F276_ok c31)
theorem c295 : Sat S295 (G 295) := Sat.of has295 (F295_ok c271 c269 c276)
theorem c274 : Sat (S274 N) (G 274) := Sat.of has274 (F274_ok c30)
theorem c275 : Sat S275 (G 275) := Sat.of has275 (F275_ok c39)
theorem c26 : Sat S26 (G 26) := Sat.of has26 F26_ok
theorem c280 : Sat S280 (G 280) := Sat.of has280 (F280_ok c26)
theorem c283 : Sat S283 (G 283) := Sat.of has283 F283_ok
theorem c282 : Sat S282 (G 282) := Sat.of has282 F282_ok
theorem c49 : Sat (S49 N) (G 49) := Sat.of has49 F49_ok
theorem c286 : Sat (S286 N) (G 286) := Sat.of has286 (F286_ok c30 c49)
theorem c298 : Sat S298 (G 298) := Sat.of has298 (F298_ok c274 c275 c276 c280 c283 c282 c286)
theorem c293 : Sat S293 (G 293) := Sat.of has293 (F293_ok c264 c294 c267 c265 c296 c295 c271 c269 c298)

set_option maxRecDepth 100000 in
theorem lifted (os : Os) (started : os.Started) (H : Type) (enc : TypeId × Value → H) :
    ReturnsInHanded {} Tryz.checked os 5 .any (Rows.topOrderSpec.pre6 enc Tryz.prog Tryz.f5 Rows.topOrderRow.domain false) (Rows.topOrderSpec.post enc Tryz.prog Tryz.f5 false true false false) := by
  refine returnsInHanded_of_change (C := Tryz.checked) own started (by kernel_rfl) Tryz.func5
    (ChangeSpec.witness6 (enc := enc) (C := Tryz.checked) false ⟨#[], #[.agg #[.int .i64 0, .int .i64 0, .int .i64 0, .int .i64 0, .int .i64 0, .int .i64 0, .int .i64 0, .int .i64 0, .int .i64 0, .int .i64 0, .int .i64 0, .int .i64 0, .int .i64 0, .int .i64 0, .int .i64 0, .int .i64 0, .int .i64 0, .int .i64 0, .int .i64 0, .int .i64 0, .int .i64 0, .int .i64 0], .slice none 0 0, .slice none 0 0], []⟩ 8 (by kernel_rfl) (by kernel_rfl) (by kernel_rfl) (by kernel_rfl)) ?_
  intro W base args ds gs before hval0 hW hcnd _
  have hval : ∀ (j : Nat) t v, Tryz.f5.params[j]? = some t → args[j]? = some v → Value.okWide Tryz.prog W .any base t v := hval0
  have hW' := hW
  obtain ⟨p, q, hA0, hV, rfl, hfz, hnd⟩ := hW
  have hA : DataW.TrodAll enc Tryz.prog W 0 (fun _ => true) true Tryz.f5.params.toList args.toList ds p := hA0
  rw [Tryz.params5] at hA hval
  obtain ⟨v0, vs0, d0, ds0, p0, q0, hargs, rfl, rfl, h0, r0⟩ := trodAll_cons hA
  obtain ⟨v1, vs1, d1, ds1, p1, q1, rfl, rfl, rfl, h1, r1⟩ := trodAll_cons r0
  obtain ⟨v2, vs2, d2, ds2, p2, q2, rfl, rfl, rfl, h2, r2⟩ := trodAll_cons r1
  obtain ⟨rfl, rfl, rfl⟩ := trodAll_nil r2
  obtain rfl : args = #[v0, v1, v2] := by cases args; simp_all
  obtain ⟨rfl, rfl⟩ := trodVars_none hV
  have k0 := h0
  have lt0 : ∀ x ∈ p0, x.block < W.heap.size := by obtain ⟨m, hm⟩ := k0; exact DataW.trod_lt m _ _ _ hm
  obtain ⟨cs0, rfl⟩ := okWide_agg Tryz.underlying25 (hval 0 25 v0 rfl rfl)
  obtain ⟨x0, hx0⟩ : ∃ x, (.agg cs0) = aggC x := by obtain ⟨fuel, hf⟩ := h0; exact mat_cfg (mat_of_trod 12 25 cfgTy fuel _ _ (by kernel_rfl) hf)
  have k1 := h1
  have lt1 : ∀ x ∈ p1, x.block < W.heap.size := by obtain ⟨m, hm⟩ := k1; exact DataW.trod_lt m _ _ _ hm
  obtain ⟨a1, len1, cap1, e1⟩ := okWide_slice Tryz.underlying26 (hval 1 26 v1 rfl rfl)
  have m1 : Mat W (.sl ruTy2) [v1] := by obtain ⟨fuel, hf⟩ := h1; exact mat_cell e1 (mat_of_trod 12 26 (.sl ruTy2) fuel _ _ (by kernel_rfl) hf)
  obtain ⟨x1, hx1⟩ := mat_rls m1
  have k2 := h2
  have lt2 : ∀ x ∈ p2, x.block < W.heap.size := by obtain ⟨m, hm⟩ := k2; exact DataW.trod_lt m _ _ _ hm
  obtain ⟨a2, len2, cap2, e2⟩ := okWide_slice Tryz.underlying27 (hval 2 27 v2 rfl rfl)
  have m2 : Mat W (.sl acTy) [v2] := by obtain ⟨fuel, hf⟩ := h2; exact mat_cell e2 (mat_of_trod 12 27 (.sl acTy) fuel _ _ (by kernel_rfl) hf)
  obtain ⟨x2, hx2⟩ := mat_acs m2
  clear hA0 hval0
  have hwalk := law_calls (P := Tryz.prog) (N := N) (k := 293) (f := 5) (w := W) rfl Tryz.func5 (by kernel_rfl) (c293 _ _ _ ⟨x0, v1, x1, v2, x2, (show ([.agg cs0, v1, v2] : List Value) = [aggC x0, v1, v2] by rw [hx0]), hx1, hx2, fun _ hle => ⟨rfl, hle⟩⟩)
  refine hwalk.mono fun e W' ⟨he, bel⟩ => ?_
  subst he
  exact ⟨_, rfl, _, _, _, [], _, [], hW', trodAll_mk1 (shut_bool Tryz.underlying4 _), (trodAll_cons_mk (Below.trod laidOut (by kernel_rfl) (of_decide_eq_true (by kernel_rfl)) k0 bel lt0) (trodAll_cons_mk (Below.trod laidOut (by kernel_rfl) (of_decide_eq_true (by kernel_rfl)) k1 bel lt1) (trodAll_cons_mk (Below.trod laidOut (by kernel_rfl) (of_decide_eq_true (by kernel_rfl)) k2 bel lt2) trodAll_mk0))), rfl, bel.frame _, fun h => by cases h⟩

theorem over : Rows.topOrderRow.holds Tryz.pinned (OpenSpec.ofChange Rows.topOrderSpec) :=
  OpenClaim.holds_of_wide 5 Tryz.f5 rfl rfl rfl rfl rfl rfl rfl ⟨rfl, rfl, rfl, rfl, rfl⟩ rfl rfl rfl rfl rfl (by kernel_rfl) Tryz.func5 (by kernel_rfl)
    (of_decide_eq_true (by kernel_rfl)) (by unfold Func.isWrapper; first | (rw [if_pos (by decide +kernel)]; kernel_rfl) | (rw [if_neg (of_decide_eq_false (by kernel_rfl))]; exact ⟨rfl, rfl⟩))
    (fun os started H enc _ => lifted os started H enc)
end Go.Proofs.YthhepmakjimhlabGreat.CwTopOrder
namespace Go.Proofs.YthhepmakjimhlabGreat
theorem topOrder_holds : Rows.TopOrderSaid := CwTopOrder.over
#print axioms topOrder_holds
end Go.Proofs.YthhepmakjimhlabGreat
