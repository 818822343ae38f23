/- RuleSays returns true whatever it is given, and all its arguments read as before. No condition on the input. -/
import Derived.Test.YthhepmakjimhlaaDoorCwS
import Derived.Shelf.Strings.Split
import Derived.Shelf.Strings.Prefix
import Derived.Shelf.Strconv.AtoiAll
import Derived.Shelf.Strconv.Itoa3
import Derived.Shelf.LaysM
import Derived.Shelf.LaysC
import Derived.Ground.NamesProg
import Derived.WalkKit
import Derived.ProofKit
import Derived.OpenShut
import Derived.ShutString
import Derived.ChangeOld
import Derived.ChangeSame
import Derived.ChangeVars
import Derived.JoinedOf
import Derived.RowKitTokens
import Derived.LaidLaws
import Derived.LaidMore
import Derived.Lay
import Derived.MakeChecks
import Derived.LaidHandle
import Derived.LaidSub
import Derived.HandedShaped
import Derived.Lib.LaidTab
import Derived.Below
import Derived.SevenTiedAt
import Derived.Test.YthhepmakjimhlaaDoorCards
import Derived.Test.YthhepmakjimhlaaDoorTie
namespace Go.Proofs
open Go.Shelf
def Tryd.lays171_ren : Shelf.Ren := ⟨λ|171=>32|243=>65|246=>75|283=>94|284=>95|285=>96|286=>97|129=>114|317=>113|318=>115|319=>116|320=>117|337=>125|338=>126|n=>n,λ|3=>3|9=>9|2=>2|4=>4|171=>144|0=>0|53=>76|37=>79|5=>5|173=>147|212=>165|51=>149|20=>20|213=>166|46=>84|232=>182|233=>183|n=>n,λ|17=>3|18=>6|19=>7|n=>n⟩
theorem Tryd.lays171 : LaysM.n171 Tryd.prog Tryd.lays171_ren:=by repeat'(first|(intros;kernel_rfl)|constructor)

def Tryd.lays146_ren : Shelf.Ren := ⟨λ|146=>44|221=>68|268=>83|138=>84|143=>85|195=>107|197=>108|218=>109|219=>82|260=>122|217=>103|225=>104|224=>105|267=>106|266=>120|314=>121|n=>n,λ|9=>9|31=>59|3=>3|4=>4|0=>0|105=>156|21=>21|5=>5|46=>84|119=>178|139=>181|138=>180|146=>150|51=>149|n=>n,λ|1=>0|3=>4|4=>5|n=>n⟩
theorem Tryd.lays146 : LaysM.n146 Tryd.prog Tryd.lays146_ren:=by repeat'(first|(intros;kernel_rfl)|exact(fun w h => cell_of_shapedOpen_int (zero := #[.int .i64 0]) (t := 3) h (of_decide_eq_true (by kernel_rfl)) (by kernel_rfl) rfl (by kernel_rfl) (by kernel_rfl) Tryd.underlying3)|constructor)

def Tryd.lays172_ren : Shelf.Ren := ⟨λ|172=>53|244=>69|245=>70|247=>86|279=>87|280=>88|281=>89|282=>90|287=>110|316=>111|171=>32|205=>112|321=>123|322=>124|243=>65|246=>75|283=>94|284=>95|285=>96|286=>97|129=>114|317=>113|318=>115|319=>116|320=>117|337=>125|338=>126|n=>n,λ|9=>9|3=>3|75=>27|76=>97|4=>4|5=>5|167=>135|37=>79|0=>0|85=>136|2=>2|168=>138|53=>76|175=>158|46=>84|210=>162|127=>154|145=>176|143=>174|21=>21|171=>144|173=>147|212=>165|51=>149|20=>20|213=>166|232=>182|233=>183|80=>29|n=>n,λ|15=>1|16=>2|17=>3|18=>6|19=>7|n=>n⟩
theorem Tryd.lays172 : LaysC.n172 Tryd.prog Tryd.lays172_ren:=by repeat'(first|(intros;kernel_rfl)|constructor)

def Tryd.lays102_ren : Shelf.Ren := ⟨λ|102=>54|209=>71|207=>91|n=>n,λ|9=>9|4=>4|3=>3|n=>n,λ n=>n⟩
theorem Tryd.lays102 : Lays.n102 Tryd.prog Tryd.lays102_ren:=by repeat'(first|(intros;kernel_rfl)|constructor)

end Go.Proofs
namespace Go.Proofs.YthhepmakjimhlaaDoor.CwRuleSays
open Go Go.Cw Go.Proofs Go.ChangeShapes Go.WideShapes Go.ChangeAt Go.RowKit
open Go.ChangeMaps (open_string shut_string)
set_option linter.unusedVariables false

theorem own : ownKnob Tryd.prog.godebug = none := by kernel_rfl
theorem laidOut : laidOutB Tryd.prog = true := by kernel_rfl

abbrev G : Ctx := GF Tryd.prog N
/-- what the row's condition and the world's shape give -/
def Facts (W : World) : Prop := Lib.TabIs Tryd.prog W "internal/strconv.uint64pow10" .u64 Lib.pow10Tab ∧ W.ShapedOpen Tryd.prog ∧ (∃ te pe, W.cell? ⟨1, 0, none⟩ = some (.iface te pe)) ∧ (∃ te pe, W.cell? ⟨2, 0, none⟩ = some (.iface te pe))
theorem facts {W : World} (hL : laidMetH Tryd.prog Rows.ruleSaysRow.laid W) (hsh : W.ShapedOpen Tryd.prog) : Facts W := by
  have h1 := hL.filter fun x => x.1 == "internal/strconv.uint64pow10"
  have e : (Rows.ruleSaysRow.laid.filter fun x => x.1 == "internal/strconv.uint64pow10") = [("internal/strconv.uint64pow10", Lib.tabData .u64 Lib.pow10Tab)] := by rfl
  rw [e, MakeChecks.laidMetH_plain _ _ _ (by kernel_rfl)] at h1
  have h2 := hL.filter fun x => x.1 == "strconv.ErrSyntax"
  have e2 : (Rows.ruleSaysRow.laid.filter fun x => x.1 == "strconv.ErrSyntax") = [("strconv.ErrSyntax", Rows.laid_strconv_ErrSyntax)] := by rfl
  rw [e2, MakeChecks.laidMetH_plain _ _ _ (by kernel_rfl)] at h2
  have h3 := hL.filter fun x => x.1 == "strconv.ErrRange"
  have e3 : (Rows.ruleSaysRow.laid.filter fun x => x.1 == "strconv.ErrRange") = [("strconv.ErrRange", Rows.laid_strconv_ErrRange)] := by rfl
  rw [e3, MakeChecks.laidMetH_plain _ _ _ (by kernel_rfl)] at h3
  exact ⟨Lib.tabIs_of_head (g := 3) (t := 165) (e := 76) (n := 20) (by kernel_rfl) (by kernel_rfl) (by kernel_rfl) (by kernel_rfl) (by kernel_rfl) (by kernel_rfl) h1, hsh, iface_of_laid (g := 1) (ti := 27) (by kernel_rfl) (by kernel_rfl) Tryd.underlying27 h2, iface_of_laid (g := 2) (ti := 27) (by kernel_rfl) (by kernel_rfl) Tryd.underlying27 h3⟩
theorem c176 (W : World) (h : Facts W) : Sat (S176n (full W)) (G 176) := fun args h' K hx => .inl ⟨⟨Tryd.f32, Tryd.func32, by kernel_rfl, by kernel_rfl⟩, fun w hs => c176n_of Tryd.lays171 h.1 args h' K hx w hs⟩
theorem c181 (W : World) (h : Facts W) : Sat (S181 (full W)) (G 181) := fun args h' K hx => .inl ⟨⟨Tryd.f44, Tryd.func44, by kernel_rfl, by kernel_rfl⟩, fun w hs => c181_of Tryd.lays146 h.2.1 args h' K hx w hs⟩
theorem c190 (W : World) (h : Facts W) : Sat (S190 (full W)) (G 190) := fun args h' K hx => .inl ⟨⟨Tryd.f53, Tryd.func53, by kernel_rfl, by kernel_rfl⟩, fun w hs => c190_of Tryd.lays172 h.2.2.1 h.2.2.2 args h' K hx w hs⟩
theorem c191 : Sat S191 (G 191) := fun args h' K hx => .inl ⟨⟨Tryd.f54, Tryd.func54, by kernel_rfl, by kernel_rfl⟩, fun w hs => c191_of Tryd.lays102 args h' K hx w hs⟩
theorem c19 : Sat (S19 N) (G 19) := Sat.of has19 F19_ok
theorem c12 : Sat S12t (G 12) := Sat.of has12 F12t_ok
theorem c28 : Sat (S28 N) (G 28) := Sat.of has28 F28_ok
theorem c60 : Sat S60 (G 60) := Sat.of has60 F60_ok
theorem c29 : Sat (S29 N) (G 29) := Sat.of has29 (F29_ok c60)
theorem c30 : Sat (S30 N) (G 30) := Sat.of has30 F30_ok
theorem c31 : Sat S31 (G 31) := Sat.of has31 F31_ok
theorem c55 : Sat S55 (G 55) := Sat.of has55 F55_ok
theorem c111 : Sat S111 (G 111) := Sat.of has111 F111_ok
theorem c86 : Sat S86 (G 86) := Sat.of has86 (F86_ok c111)
theorem c85 : Sat S85 (G 85) := Sat.of has85 F85_ok
theorem c70 : Sat S70 (G 70) := Sat.of has70 (F70_ok c85 c86)
theorem c52 : Sat S52 (G 52) := Sat.of has52 (F52_ok c55 c70)
theorem c53 : Sat S53 (G 53) := Sat.of has53 (F53_ok c52 c70)
theorem c50 : Sat S50 (G 50) := Sat.of has50 (F50_ok c30)
theorem c51 : Sat S51 (G 51) := Sat.of has51 F51_ok
theorem c45 : Sat S45 (G 45) := Sat.of has45 F45_ok
theorem c14 : Sat S14 (G 14) := Sat.of has14 F14_ok
theorem c13 : Sat (S13 N) (G 13) := Sat.of has13 (F13_ok c28 c19 c51 c45 c29 c31)
theorem c79 : Sat S79 (G 79) := Sat.of has79 F79_ok
theorem c117 : Sat S117 (G 117) := Sat.of has117 F117_ok
theorem c107 : Sat S107 (G 107) := Sat.of has107 F107_ok
theorem c128 : Sat S128 (G 128) := Sat.of has128 (F128_ok c79 c85)
theorem c108 : Sat (S108 N) (G 108) := Sat.of has108 (F108_ok c107 c117)
theorem c127 : Sat S127 (G 127) := Sat.of has127 F127_ok
theorem c110 : Sat S110 (G 110) := Sat.of has110 (F110_ok c127 c79 c128)
theorem c106 : Sat S106 (G 106) := Sat.of has106 F106_ok
theorem c81 : Sat (S81 N) (G 81) := Sat.of has81 (F81_ok c106 c107 c108)
theorem c83 : Sat S83 (G 83) := Sat.of has83 (F83_ok c110)
theorem c184 : Sat S184 (G 184) := Sat.of has184 F184_ok
theorem c183 : Sat S183 (G 183) := Sat.of has183 F183_ok
theorem c186 : Sat S186 (G 186) := Sat.of has186 F186_ok
theorem c170 : Sat (S170 N) (G 170) := Sat.of has170 (F170_ok c186)
theorem c168 : Sat S168 (G 168) := Sat.of has168 F168_ok
theorem c185 : Sat S185 (G 185) := Sat.of has185 F185_ok
theorem c187 : Sat S187 (G 187) := Sat.of has187 F187_ok
theorem c171 : Sat S171 (G 171) := Sat.of has171 (F171_ok c187 c85)
theorem c173 : Sat S173 (G 173) := Sat.of has173 (F173_ok c183 c187 c184 c168 c171)
theorem c188 : Sat S188 (G 188) := Sat.of has188 F188_ok
theorem c169 (W : World) (h : Facts W) : Sat (S169 (full W) N) (G 169) := Sat.of has169 (F169_ok c170 c185 (c176 W h))
theorem c189 (W : World) (h : Facts W) : Sat (S189 (full W) N) (G 189) := Sat.of has189 (F189_ok c188 (c190 W h))
theorem c172 (W : World) (h : Facts W) : Sat (S172 (full W) N) (G 172) := Sat.of has172 (F172_ok (c181 W h) c188 (c189 W h) c191 c185 (c169 W h))
theorem c167 (W : World) (h : Facts W) : Sat (S167 (full W)) (G 167) := Sat.of has167 (F167_ok (c169 W h) c19)
theorem c174 : Sat (S174 N) (G 174) := Sat.of has174 (F174_ok c170 c50 c81 c30)
theorem c175 : Sat S175 (G 175) := Sat.of has175 (F175_ok c83 c168 c53 c70)
theorem c159 (W : World) (h : Facts W) : Sat (S159 (full W)) (G 159) := Sat.of has159 (F159_ok (c167 W h) c12 c168 (c169 W h) c170 c19 c171 (c172 W h) c173 c13 c14 c174 c175)

/-- the wrap that keeps the laid condition and the world's shape -/
theorem wrap {H : Type} {enc : TypeId × Value → H} {a : Assume} {C : Checked} {os : Os} {f : FuncId} {fn : Func} {s : ChangeSpec} {conds : List PathCond} {apart fresh handsOn again : Bool} {X : World → Array Value → Prop}
    (hX : ∀ (w w' : World) (args : Array Value), w.heap = w'.heap → X w args → X w' args)
    (own : ownKnob C.prog.godebug = none) (started : os.Started) (noInit : C.prog.inits.idxOf? f = none) (hfn : C.prog.funcs[f]? = some fn)
    (witness : ∃ (w : World) (tape : Tape) (i : Input), w.os = os ∧ (w.forCall tape i).Shaped C.prog ∧ i.vars = [] ∧ Input.okWide C.prog (w.forCall tape i) .any w.heap.size f i ∧
      ((s.pre enc C.prog fn conds apart (w.forCall tape i).memory i.args ∧ X (w.forCall tape i).memory i.args) ∧ sizedMet enc C.prog fn (OpenSpec.ofChange s) apart (w.forCall tape i).memory i.args) ∧ a.holds C.prog (lone (Frame.enter C.prog f i.args .normal) [] (w.forCall tape i)))
    (contract : ∀ (W : World) (base : Nat) (args : Array Value) (ds gs : List (DataW H)) (before : List MemPlace),
      (∀ (j : Nat) t v, fn.params[j]? = some t → args[j]? = some v → Value.okWide C.prog W .any base t v) →
      DataW.Whole enc C.prog fn.params.toList s.vars apart W args.toList ds gs before → X W args → W.ShapedOpen C.prog →
      Calls C.prog f args W fun e W' => ∃ v, e = .returned v ∧ s.post enc C.prog fn apart fresh handsOn again W args v W') :
    ReturnsInHanded a C os f .any (fun w args => (s.pre enc C.prog fn conds apart w args ∧ X w args) ∧ sizedMet enc C.prog fn (OpenSpec.ofChange s) apart w args) (s.post enc C.prog fn apart fresh handsOn again) := by
  refine returnsInHanded_of_calls own started noInit witness ?_
  intro w tape i _ hsh _ hok hpre hholds
  obtain ⟨_, _, _, fn', hfn', _, _, _, _, hval⟩ := hok
  have e : fn' = fn := Option.some.inj (hfn'.symm.trans hfn)
  subst e
  obtain ⟨⟨⟨ds, gs, before, hw, hc⟩, hx⟩, hz⟩ := hpre
  have hw' := DataW.Whole.of_heap (w' := w.forCall tape i) (by rfl) hw
  refine (contract (w.forCall tape i) w.heap.size i.args ds gs before hval hw' (hX _ _ _ (by rfl) hx) hsh).mono fun e W' ⟨v, he, hp⟩ => ?_
  subst he
  exact ChangeSpec.post_blind hp

set_option maxRecDepth 100000 in
theorem lifted (os : Os) (started : os.Started) (H : Type) (enc : TypeId × Value → H) :
    ReturnsInHanded {} Tryd.checked os 5 .any (fun w args => (Rows.ruleSaysSpec.pre enc Tryd.prog Tryd.f5 [] false w args ∧ laidMetH Tryd.prog Rows.ruleSaysRow.laid w) ∧ sizedMet enc Tryd.prog Tryd.f5 (OpenSpec.ofChange Rows.ruleSaysSpec) false w args)
      (Rows.ruleSaysSpec.post enc Tryd.prog Tryd.f5 false true false false) := by
  refine wrap (C := Tryd.checked) (X := fun w _ => laidMetH Tryd.prog Rows.ruleSaysRow.laid w) (fun _ _ _ hh h => h.of_heap hh) own started (by kernel_rfl) Tryd.func5
    (ChangeSpec.witness_shaped (enc := enc) (C := Tryd.checked) (os := os) (X := fun w _ => laidMetH Tryd.prog Rows.ruleSaysRow.laid w) false (World.laidAll Tryd.prog os Rows.ruleSaysRow.laid) #[.agg #[.string .empty, .int .i64 0, .int .i64 0, .int .i64 0, .int .i64 0, .int .i64 0], .string .empty, .int .i64 0, .int .i64 0, .slice none 0 0] 8 (World.laidAll_os _ _ _) (World.shaped_of_ZipB (by kernel_rfl) (by kernel_rfl)) (by kernel_rfl) (by kernel_rfl) (by kernel_rfl)
      (by rw [MakeChecks.laidMetH_plain _ _ _ (by kernel_rfl)]; exact laidMet_laidAll _ (by kernel_rfl) (by kernel_rfl))) ?_
  intro W base args ds gs before hval0 hW hL hsh
  have hfacts : Facts W := facts hL hsh
  have hval : ∀ (j : Nat) t v, Tryd.f5.params[j]? = some t → args[j]? = some v → Value.okWide Tryd.prog W .any base t v := hval0
  have hW' := hW
  obtain ⟨p, q, hA0, hV, rfl, hfz, hnd⟩ := hW
  have hA : DataW.TrodAll enc Tryd.prog W 0 (fun _ => true) true Tryd.f5.params.toList args.toList ds p := hA0
  rw [Tryd.params5] at hA hval
  obtain ⟨v0, vs0, d0, ds0, p0, q0, hargs, rfl, rfl, h0, r0⟩ := trodAll_cons hA
  obtain ⟨v1, vs1, d1, ds1, p1, q1, rfl, rfl, rfl, h1, r1⟩ := trodAll_cons r0
  obtain ⟨v2, vs2, d2, ds2, p2, q2, rfl, rfl, rfl, h2, r2⟩ := trodAll_cons r1
  obtain ⟨v3, vs3, d3, ds3, p3, q3, rfl, rfl, rfl, h3, r3⟩ := trodAll_cons r2
  obtain ⟨v4, vs4, d4, ds4, p4, q4, rfl, rfl, rfl, h4, r4⟩ := trodAll_cons r3
  obtain ⟨rfl, rfl, rfl⟩ := trodAll_nil r4
  obtain rfl : args = #[v0, v1, v2, v3, v4] := by cases args; simp_all
  obtain ⟨rfl, rfl⟩ := trodVars_none hV
  have k0 := h0
  have lt0 : ∀ x ∈ p0, x.block < W.heap.size := by obtain ⟨m, hm⟩ := k0; exact DataW.trod_lt m _ _ _ hm
  obtain ⟨cs0, rfl⟩ := okWide_ag Tryd.underlying44 (hval 0 44 v0 rfl rfl)
  obtain ⟨x0, hx0⟩ : ∃ x, (.agg cs0) = aggR x ∧ x.name.length ≤ 9223372036854775807 := by obtain ⟨fuel, hf⟩ := h0; exact mat_rule (mat_of_trod 12 44 ruleTy fuel _ _ (by kernel_rfl) hf)
  have k1 := h1
  have lt1 : ∀ x ∈ p1, x.block < W.heap.size := by obtain ⟨m, hm⟩ := k1; exact DataW.trod_lt m _ _ _ hm
  obtain ⟨s1, rfl, _, _, w1⟩ := open_string Tryd.underlying9 (hval 1 9 v1 rfl rfl) h1
  have k2 := h2
  have lt2 : ∀ x ∈ p2, x.block < W.heap.size := by obtain ⟨m, hm⟩ := k2; exact DataW.trod_lt m _ _ _ hm
  obtain ⟨a2, rfl, _, _, w2⟩ := open_int Tryd.underlying3 (hval 2 3 v2 rfl rfl) h2
  have k3 := h3
  have lt3 : ∀ x ∈ p3, x.block < W.heap.size := by obtain ⟨m, hm⟩ := k3; exact DataW.trod_lt m _ _ _ hm
  obtain ⟨a3, rfl, _, _, w3⟩ := open_int Tryd.underlying3 (hval 3 3 v3 rfl rfl) h3
  have k4 := h4
  have lt4 : ∀ x ∈ p4, x.block < W.heap.size := by obtain ⟨m, hm⟩ := k4; exact DataW.trod_lt m _ _ _ hm
  obtain ⟨a4, len4, cap4, e4⟩ := okWide_slice Tryd.underlying45 (hval 4 45 v4 rfl rfl)
  have m4 : Mat W (.sl (.sl rdTy)) [v4] := by obtain ⟨fuel, hf⟩ := h4; exact mat_cell e4 (mat_of_trod 12 45 (.sl (.sl rdTy)) fuel _ _ (by kernel_rfl) hf)
  obtain ⟨x4, hx4⟩ := mat_ss m4
  clear hA0 hval0
  have hwalk := law_calls (P := Tryd.prog) (N := N) (k := 159) (f := 5) (w := W) rfl Tryd.func5 (by kernel_rfl) (c159 W hfacts _ _ _ ⟨x0, s1.data.toList, a2, a3, v4, x4, (show ([.agg cs0, .string s1, .int .i64 a2, .int .i64 a3, v4] : List Value) = [aggR x0, .string (str s1.data.toList), .int .i64 a2, .int .i64 a3, v4] by rw [hx0.1]; rfl), hx0.2, hx4, Heap.le.refl _, fun _ hle => ⟨rfl, hle⟩⟩)
  refine hwalk.mono fun e W' ⟨he, bel⟩ => ?_
  subst he
  exact ⟨_, rfl, _, _, _, [], _, [], hW', trodAll_mk1 (shut_bool Tryd.underlying4 _), (trodAll_cons_mk (Below.trod laidOut (by kernel_rfl) (of_decide_eq_true (by kernel_rfl)) k0 bel lt0) (trodAll_cons_mk (Below.trod laidOut (by kernel_rfl) (of_decide_eq_true (by kernel_rfl)) k1 bel lt1) (trodAll_cons_mk (Below.trod laidOut (by kernel_rfl) (of_decide_eq_true (by kernel_rfl)) k2 bel lt2) (trodAll_cons_mk (Below.trod laidOut (by kernel_rfl) (of_decide_eq_true (by kernel_rfl)) k3 bel lt3) (trodAll_cons_mk (Below.trod laidOut (by kernel_rfl) (of_decide_eq_true (by kernel_rfl)) k4 bel lt4) trodAll_mk0))))), rfl, bel.frame _, fun h => by cases h⟩

theorem over : Rows.RuleSaysSaid :=
  OpenClaim.holds_of_wide 5 Tryd.f5 rfl rfl rfl rfl rfl rfl rfl ⟨rfl, rfl, rfl, rfl, rfl⟩ rfl rfl rfl rfl rfl (by kernel_rfl) Tryd.func5 (by kernel_rfl)
    (of_decide_eq_true (by kernel_rfl)) (by unfold Func.isWrapper; first | (rw [if_pos (by decide +kernel)]; kernel_rfl) | (rw [if_neg (of_decide_eq_false (by kernel_rfl))]; exact ⟨rfl, rfl⟩))
    (fun os started H enc _ => lifted os started H enc)
end Go.Proofs.YthhepmakjimhlaaDoor.CwRuleSays
namespace Go.Proofs.YthhepmakjimhlaaDoor
theorem ruleSays_holds : Rows.RuleSaysSaid := CwRuleSays.over
theorem ruleSaysCard_holds : Rows.RuleSaysCardSaid :=
  Claim7.holds_tied_plain_at .later [] [.data, .data, .data, .data, .sentinel, .sentinel, .pinned] true (true, "c51883006657bd9b63622be3047240f53b2d2f19287f35565662fa721652696e") true
    ruleSays_holds (fun _ h => by cases h) (by kernel_rfl) (fun _ h => by cases h) ruleSays_row_tie rfl ⟨rfl, rfl⟩ (by kernel_rfl) rfl
    (fun f fn hf hfn => by
      obtain rfl : f = 5 := Option.some.inj ((show Tryd.prog.funcNamed "cratewatch/cratewatchlaw.RuleSays" = some 5 by kernel_rfl).symm.trans hf) |>.symm
      obtain rfl : fn = Tryd.f5 := (Option.some.inj (Tryd.func5.symm.trans hfn)).symm
      exact ⟨by kernel_rfl, fun j t ht => by
        rw [Tryd.params5] at ht
        have hm : t ∈ [44, 9, 3, 3, 45] := by simpa using Array.mem_of_getElem? ht
        have hall : ([44, 9, 3, 3, 45].all fun u => !Tryd.prog.wantsStandIn u) = true := by kernel_rfl
        exact (show Tryd.prog.wantsStandIn t = false by simpa using List.all_eq_true.1 hall t hm)⟩)
    (by kernel_rfl)
#print axioms ruleSaysCard_holds
end Go.Proofs.YthhepmakjimhlaaDoor
