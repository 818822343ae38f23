/- TopRule returns true whatever it is given, and all its arguments read as before. No condition on the input. -/
import Derived.Test.YthhepmakjimhlabDoorCwS
import Derived.Shelf.Strings.Split
import Derived.Shelf.Strings.Prefix
import Derived.Shelf.Strconv.AtoiAll
import Derived.Shelf.Strconv.Itoa3
import Derived.Shelf.LaysM
import Derived.Shelf.LaysC
import Derived.Ground.NamesProg
import Derived.WalkKit
import Derived.ProofKit
import Derived.OpenShut
import Derived.ShutString
import Derived.ChangeOld
import Derived.ChangeSame
import Derived.ChangeVars
import Derived.JoinedOf
import Derived.RowKitTokens
import Derived.LaidLaws
import Derived.LaidMore
import Derived.Lay
import Derived.MakeChecks
import Derived.LaidHandle
import Derived.LaidSub
import Derived.HandedShaped
import Derived.Lib.LaidTab
import Derived.Below
import Derived.SevenTiedAt
import Derived.Test.YthhepmakjimhlabDoorCards
import Derived.Test.YthhepmakjimhlabDoorTie
namespace Go.Proofs
open Go.Shelf
def Tryd.lays171_ren : Shelf.Ren := ⟨λ|171=>15|243=>28|246=>35|283=>52|284=>53|285=>54|286=>55|129=>72|317=>71|318=>73|319=>74|320=>75|337=>83|338=>84|n=>n,λ|3=>3|9=>9|2=>2|4=>4|171=>88|0=>0|53=>43|37=>46|5=>5|173=>91|212=>110|51=>93|20=>20|213=>111|46=>50|232=>127|233=>128|n=>n,λ|17=>3|18=>6|19=>7|n=>n⟩
theorem Tryd.lays171 : LaysM.n171 Tryd.prog Tryd.lays171_ren:=by repeat'(first|(intros;kernel_rfl)|constructor)

def Tryd.lays146_ren : Shelf.Ren := ⟨λ|146=>20|221=>31|268=>43|138=>44|143=>45|195=>65|197=>66|218=>67|219=>42|260=>80|217=>61|225=>62|224=>63|267=>64|266=>78|314=>79|n=>n,λ|9=>9|31=>54|3=>3|4=>4|0=>0|105=>101|21=>21|5=>5|46=>50|119=>123|139=>126|138=>125|146=>94|51=>93|n=>n,λ|1=>0|3=>4|4=>5|n=>n⟩
theorem Tryd.lays146 : LaysM.n146 Tryd.prog Tryd.lays146_ren:=by repeat'(first|(intros;kernel_rfl)|exact(fun w h => cell_of_shapedOpen_int (zero := #[.int .i64 0]) (t := 3) h (of_decide_eq_true (by kernel_rfl)) (by kernel_rfl) rfl (by kernel_rfl) (by kernel_rfl) Tryd.underlying3)|constructor)

def Tryd.lays172_ren : Shelf.Ren := ⟨λ|172=>24|244=>32|245=>33|247=>46|279=>47|280=>48|281=>49|282=>50|287=>68|316=>69|171=>15|205=>70|321=>81|322=>82|243=>28|246=>35|283=>52|284=>53|285=>54|286=>55|129=>72|317=>71|318=>73|319=>74|320=>75|337=>83|338=>84|n=>n,λ|9=>9|3=>3|75=>25|76=>60|4=>4|5=>5|167=>82|37=>46|0=>0|85=>83|2=>2|168=>85|53=>43|175=>103|46=>50|210=>107|127=>98|145=>121|143=>119|21=>21|171=>88|173=>91|212=>110|51=>93|20=>20|213=>111|232=>127|233=>128|80=>59|n=>n,λ|15=>1|16=>2|17=>3|18=>6|19=>7|n=>n⟩
theorem Tryd.lays172 : LaysC.n172 Tryd.prog Tryd.lays172_ren:=by repeat'(first|(intros;kernel_rfl)|constructor)

def Tryd.lays102_ren : Shelf.Ren := ⟨λ|102=>25|209=>34|207=>51|n=>n,λ|9=>9|4=>4|3=>3|n=>n,λ n=>n⟩
theorem Tryd.lays102 : Lays.n102 Tryd.prog Tryd.lays102_ren:=by repeat'(first|(intros;kernel_rfl)|constructor)

end Go.Proofs
namespace Go.Proofs.YthhepmakjimhlabDoor.CwTopRule
open Go Go.Cw Go.Proofs Go.ChangeShapes Go.WideShapes Go.ChangeAt Go.RowKit
open Go.ChangeMaps (open_string shut_string)
set_option linter.unusedVariables false

theorem own : ownKnob Tryd.prog.godebug = none := by kernel_rfl
theorem laidOut : laidOutB Tryd.prog = true := by kernel_rfl

abbrev G : Ctx := GF Tryd.prog N
/-- what the row's condition and the world's shape give -/
def Facts (W : World) : Prop := Lib.TabIs Tryd.prog W "internal/strconv.uint64pow10" .u64 Lib.pow10Tab ∧ W.ShapedOpen Tryd.prog ∧ (∃ te pe, W.cell? ⟨1, 0, none⟩ = some (.iface te pe)) ∧ (∃ te pe, W.cell? ⟨2, 0, none⟩ = some (.iface te pe))
theorem facts {W : World} (hL : laidMetH Tryd.prog Rows.topRuleRow.laid W) (hsh : W.ShapedOpen Tryd.prog) : Facts W := by
  have h1 := hL.filter fun x => x.1 == "internal/strconv.uint64pow10"
  have e : (Rows.topRuleRow.laid.filter fun x => x.1 == "internal/strconv.uint64pow10") = [("internal/strconv.uint64pow10", Lib.tabData .u64 Lib.pow10Tab)] := by rfl
  rw [e, MakeChecks.laidMetH_plain _ _ _ (by kernel_rfl)] at h1
  have h2 := hL.filter fun x => x.1 == "strconv.ErrSyntax"
  have e2 : (Rows.topRuleRow.laid.filter fun x => x.1 == "strconv.ErrSyntax") = [("strconv.ErrSyntax", Rows.laid_strconv_ErrSyntax)] := by rfl
  rw [e2, MakeChecks.laidMetH_plain _ _ _ (by kernel_rfl)] at h2
  have h3 := hL.filter fun x => x.1 == "strconv.ErrRange"
  have e3 : (Rows.topRuleRow.laid.filter fun x => x.1 == "strconv.ErrRange") = [("strconv.ErrRange", Rows.laid_strconv_ErrRange)] := by rfl
  rw [e3, MakeChecks.laidMetH_plain _ _ _ (by kernel_rfl)] at h3
  exact ⟨Lib.tabIs_of_head (g := 3) (t := 110) (e := 43) (n := 20) (by kernel_rfl) (by kernel_rfl) (by kernel_rfl) (by kernel_rfl) (by kernel_rfl) (by kernel_rfl) h1, hsh, iface_of_laid (g := 1) (ti := 25) (by kernel_rfl) (by kernel_rfl) Tryd.underlying25 h2, iface_of_laid (g := 2) (ti := 25) (by kernel_rfl) (by kernel_rfl) Tryd.underlying25 h3⟩
theorem c176 (W : World) (h : Facts W) : Sat (S176n (full W)) (G 176) := fun args h' K hx => .inl ⟨⟨Tryd.f15, Tryd.func15, by kernel_rfl, by kernel_rfl⟩, fun w hs => c176n_of Tryd.lays171 h.1 args h' K hx w hs⟩
theorem c181 (W : World) (h : Facts W) : Sat (S181 (full W)) (G 181) := fun args h' K hx => .inl ⟨⟨Tryd.f20, Tryd.func20, by kernel_rfl, by kernel_rfl⟩, fun w hs => c181_of Tryd.lays146 h.2.1 args h' K hx w hs⟩
theorem c190 (W : World) (h : Facts W) : Sat (S190 (full W)) (G 190) := fun args h' K hx => .inl ⟨⟨Tryd.f24, Tryd.func24, by kernel_rfl, by kernel_rfl⟩, fun w hs => c190_of Tryd.lays172 h.2.2.1 h.2.2.2 args h' K hx w hs⟩
theorem c191 : Sat S191 (G 191) := fun args h' K hx => .inl ⟨⟨Tryd.f25, Tryd.func25, by kernel_rfl, by kernel_rfl⟩, fun w hs => c191_of Tryd.lays102 args h' K hx w hs⟩
theorem c186 : Sat S186 (G 186) := Sat.of has186 F186_ok
theorem c170 : Sat (S170 N) (G 170) := Sat.of has170 (F170_ok c186)
theorem c185 : Sat S185 (G 185) := Sat.of has185 F185_ok
theorem c188 : Sat S188 (G 188) := Sat.of has188 F188_ok
theorem c169 (W : World) (h : Facts W) : Sat (S169 (full W) N) (G 169) := Sat.of has169 (F169_ok c170 c185 (c176 W h))
theorem c189 (W : World) (h : Facts W) : Sat (S189 (full W) N) (G 189) := Sat.of has189 (F189_ok c188 (c190 W h))
theorem c172 (W : World) (h : Facts W) : Sat (S172 (full W) N) (G 172) := Sat.of has172 (F172_ok (c181 W h) c188 (c189 W h) c191 c185 (c169 W h))
theorem c290 (W : World) (h : Facts W) : Sat (S290 (full W)) (G 290) := Sat.of has290 (F290_ok (c172 W h) (c169 W h) c170)

/-- the wrap that keeps the laid condition and the world's shape -/
theorem wrap {H : Type} {enc : TypeId × Value → H} {a : Assume} {C : Checked} {os : Os} {f : FuncId} {fn : Func} {s : ChangeSpec} {conds : List PathCond} {apart fresh handsOn again : Bool} {X : World → Array Value → Prop}
    (hX : ∀ (w w' : World) (args : Array Value), w.heap = w'.heap → X w args → X w' args)
    (own : ownKnob C.prog.godebug = none) (started : os.Started) (noInit : C.prog.inits.idxOf? f = none) (hfn : C.prog.funcs[f]? = some fn)
    (witness : ∃ (w : World) (tape : Tape) (i : Input), w.os = os ∧ (w.forCall tape i).Shaped C.prog ∧ i.vars = [] ∧ Input.okWide C.prog (w.forCall tape i) .any w.heap.size f i ∧
      ((s.pre enc C.prog fn conds apart (w.forCall tape i).memory i.args ∧ X (w.forCall tape i).memory i.args) ∧ sizedMet enc C.prog fn (OpenSpec.ofChange s) apart (w.forCall tape i).memory i.args) ∧ a.holds C.prog (lone (Frame.enter C.prog f i.args .normal) [] (w.forCall tape i)))
    (contract : ∀ (W : World) (base : Nat) (args : Array Value) (ds gs : List (DataW H)) (before : List MemPlace),
      (∀ (j : Nat) t v, fn.params[j]? = some t → args[j]? = some v → Value.okWide C.prog W .any base t v) →
      DataW.Whole enc C.prog fn.params.toList s.vars apart W args.toList ds gs before → X W args → W.ShapedOpen C.prog →
      Calls C.prog f args W fun e W' => ∃ v, e = .returned v ∧ s.post enc C.prog fn apart fresh handsOn again W args v W') :
    ReturnsInHanded a C os f .any (fun w args => (s.pre enc C.prog fn conds apart w args ∧ X w args) ∧ sizedMet enc C.prog fn (OpenSpec.ofChange s) apart w args) (s.post enc C.prog fn apart fresh handsOn again) := by
  refine returnsInHanded_of_calls own started noInit witness ?_
  intro w tape i _ hsh _ hok hpre hholds
  obtain ⟨_, _, _, fn', hfn', _, _, _, _, hval⟩ := hok
  have e : fn' = fn := Option.some.inj (hfn'.symm.trans hfn)
  subst e
  obtain ⟨⟨⟨ds, gs, before, hw, hc⟩, hx⟩, hz⟩ := hpre
  have hw' := DataW.Whole.of_heap (w' := w.forCall tape i) (by rfl) hw
  refine (contract (w.forCall tape i) w.heap.size i.args ds gs before hval hw' (hX _ _ _ (by rfl) hx) hsh).mono fun e W' ⟨v, he, hp⟩ => ?_
  subst he
  exact ChangeSpec.post_blind hp

set_option maxRecDepth 100000 in
theorem lifted (os : Os) (started : os.Started) (H : Type) (enc : TypeId × Value → H) :
    ReturnsInHanded {} Tryd.checked os 4 .any (fun w args => (Rows.topRuleSpec.pre enc Tryd.prog Tryd.f4 [] false w args ∧ laidMetH Tryd.prog Rows.topRuleRow.laid w) ∧ sizedMet enc Tryd.prog Tryd.f4 (OpenSpec.ofChange Rows.topRuleSpec) false w args)
      (Rows.topRuleSpec.post enc Tryd.prog Tryd.f4 false true false false) := by
  refine wrap (C := Tryd.checked) (X := fun w _ => laidMetH Tryd.prog Rows.topRuleRow.laid w) (fun _ _ _ hh h => h.of_heap hh) own started (by kernel_rfl) Tryd.func4
    (ChangeSpec.witness_shaped (enc := enc) (C := Tryd.checked) (os := os) (X := fun w _ => laidMetH Tryd.prog Rows.topRuleRow.laid w) false (World.laidAll Tryd.prog os Rows.topRuleRow.laid) #[.agg #[.string .empty, .int .i64 0, .int .i64 0, .int .i64 0, .int .i64 0, .int .i64 0], .string .empty] 8 (World.laidAll_os _ _ _) (World.shaped_of_ZipB (by kernel_rfl) (by kernel_rfl)) (by kernel_rfl) (by kernel_rfl) (by kernel_rfl)
      (by rw [MakeChecks.laidMetH_plain _ _ _ (by kernel_rfl)]; exact laidMet_laidAll _ (by kernel_rfl) (by kernel_rfl))) ?_
  intro W base args ds gs before hval0 hW hL hsh
  have hfacts : Facts W := facts hL hsh
  have hval : ∀ (j : Nat) t v, Tryd.f4.params[j]? = some t → args[j]? = some v → Value.okWide Tryd.prog W .any base t v := hval0
  have hW' := hW
  obtain ⟨p, q, hA0, hV, rfl, hfz, hnd⟩ := hW
  have hA : DataW.TrodAll enc Tryd.prog W 0 (fun _ => true) true Tryd.f4.params.toList args.toList ds p := hA0
  rw [Tryd.params4] at hA hval
  obtain ⟨v0, vs0, d0, ds0, p0, q0, hargs, rfl, rfl, h0, r0⟩ := trodAll_cons hA
  obtain ⟨v1, vs1, d1, ds1, p1, q1, rfl, rfl, rfl, h1, r1⟩ := trodAll_cons r0
  obtain ⟨rfl, rfl, rfl⟩ := trodAll_nil r1
  obtain rfl : args = #[v0, v1] := by cases args; simp_all
  obtain ⟨rfl, rfl⟩ := trodVars_none hV
  have k0 := h0
  have lt0 : ∀ x ∈ p0, x.block < W.heap.size := by obtain ⟨m, hm⟩ := k0; exact DataW.trod_lt m _ _ _ hm
  obtain ⟨cs0, rfl⟩ := okWide_ag Tryd.underlying33 (hval 0 33 v0 rfl rfl)
  obtain ⟨x0, hx0⟩ : ∃ x, (.agg cs0) = aggR x ∧ x.name.length ≤ 9223372036854775807 := by obtain ⟨fuel, hf⟩ := h0; exact mat_rule (mat_of_trod 12 33 ruleTy fuel _ _ (by kernel_rfl) hf)
  have k1 := h1
  have lt1 : ∀ x ∈ p1, x.block < W.heap.size := by obtain ⟨m, hm⟩ := k1; exact DataW.trod_lt m _ _ _ hm
  obtain ⟨s1, rfl, _, _, w1⟩ := open_string Tryd.underlying9 (hval 1 9 v1 rfl rfl) h1
  clear hA0 hval0
  have hwalk := law_calls (P := Tryd.prog) (N := N) (k := 290) (f := 4) (w := W) rfl Tryd.func4 (by kernel_rfl) (c290 W hfacts _ _ _ ⟨x0, s1.data.toList, (show ([.agg cs0, .string s1] : List Value) = [aggR x0, .string (str s1.data.toList)] by rw [hx0.1]; rfl), hx0.2, Heap.le.refl _, fun _ hle => ⟨rfl, hle⟩⟩)
  refine hwalk.mono fun e W' ⟨he, bel⟩ => ?_
  subst he
  exact ⟨_, rfl, _, _, _, [], _, [], hW', trodAll_mk1 (shut_bool Tryd.underlying4 _), (trodAll_cons_mk (Below.trod laidOut (by kernel_rfl) (of_decide_eq_true (by kernel_rfl)) k0 bel lt0) (trodAll_cons_mk (Below.trod laidOut (by kernel_rfl) (of_decide_eq_true (by kernel_rfl)) k1 bel lt1) trodAll_mk0)), rfl, bel.frame _, fun h => by cases h⟩

theorem over : Rows.TopRuleSaid :=
  OpenClaim.holds_of_wide 4 Tryd.f4 rfl rfl rfl rfl rfl rfl rfl ⟨rfl, rfl, rfl, rfl, rfl⟩ rfl rfl rfl rfl rfl (by kernel_rfl) Tryd.func4 (by kernel_rfl)
    (of_decide_eq_true (by kernel_rfl)) (by unfold Func.isWrapper; first | (rw [if_pos (by decide +kernel)]; kernel_rfl) | (rw [if_neg (of_decide_eq_false (by kernel_rfl))]; exact ⟨rfl, rfl⟩))
    (fun os started H enc _ => lifted os started H enc)
end Go.Proofs.YthhepmakjimhlabDoor.CwTopRule
namespace Go.Proofs.YthhepmakjimhlabDoor
theorem topRule_holds : Rows.TopRuleSaid := CwTopRule.over
theorem topRuleCard_holds : Rows.TopRuleCardSaid :=
  Claim7.holds_tied_plain_at .later [] [.data, .data, .data, .data, .sentinel, .sentinel, .pinned] true (true, "f0d926cb751c76e395ca0169ae8d14f11df2a9c10f5f909e9a3e4f6b47bf7da5") true
    topRule_holds (fun _ h => by cases h) (by kernel_rfl) (fun _ h => by cases h) topRule_row_tie rfl ⟨rfl, rfl⟩ (by kernel_rfl) rfl
    (fun f fn hf hfn => by
      obtain rfl : f = 4 := Option.some.inj ((show Tryd.prog.funcNamed "cratewatch/cratewatchtop.TopRule" = some 4 by kernel_rfl).symm.trans hf) |>.symm
      obtain rfl : fn = Tryd.f4 := (Option.some.inj (Tryd.func4.symm.trans hfn)).symm
      exact ⟨by kernel_rfl, fun j t ht => by
        rw [Tryd.params4] at ht
        have hm : t ∈ [33, 9] := by simpa using Array.mem_of_getElem? ht
        have hall : ([33, 9].all fun u => !Tryd.prog.wantsStandIn u) = true := by kernel_rfl
        exact (show Tryd.prog.wantsStandIn t = false by simpa using List.all_eq_true.1 hall t hm)⟩)
    (by kernel_rfl)
#print axioms topRuleCard_holds
end Go.Proofs.YthhepmakjimhlabDoor
