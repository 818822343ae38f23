/- TagSays returns true whatever it is given, and all its arguments read as before. No condition on the input. -/
import Derived.Test.YthhepmakjimhlaaDoorCwS
import Derived.Shelf.Strings.Split
import Derived.Shelf.Strings.Cut
import Derived.Shelf.Strings.Repeat
import Derived.Shelf.Strconv.Itoa3
import Derived.Shelf.LaysM
import Derived.Ground.NamesProg
import Derived.WalkKit
import Derived.ProofKit
import Derived.OpenShut
import Derived.ShutString
import Derived.ChangeOld
import Derived.ChangeSame
import Derived.ChangeVars
import Derived.JoinedOf
import Derived.RowKitTokens
import Derived.LaidLaws
import Derived.LaidMore
import Derived.Lay
import Derived.MakeChecks
import Derived.LaidHandle
import Derived.LaidSub
import Derived.HandedShaped
import Derived.Lib.LaidTab
import Derived.Below
import Derived.SevenTiedAt
import Derived.Test.YthhepmakjimhlaaDoorCards
import Derived.Test.YthhepmakjimhlaaDoorTie
namespace Go.Proofs
open Go.Shelf
def Tryd.lays171_ren : Shelf.Ren := ⟨λ|171=>32|243=>65|246=>75|283=>94|284=>95|285=>96|286=>97|129=>114|317=>113|318=>115|319=>116|320=>117|337=>125|338=>126|n=>n,λ|3=>3|9=>9|2=>2|4=>4|171=>144|0=>0|53=>76|37=>79|5=>5|173=>147|212=>165|51=>149|20=>20|213=>166|46=>84|232=>182|233=>183|n=>n,λ|17=>3|18=>6|19=>7|n=>n⟩
theorem Tryd.lays171 : LaysM.n171 Tryd.prog Tryd.lays171_ren:=by repeat'(first|(intros;kernel_rfl)|constructor)

def Tryd.lays145_ren : Shelf.Ren := ⟨λ|145=>43|220=>67|219=>82|217=>103|225=>104|224=>105|267=>106|266=>120|314=>121|n=>n,λ|9=>9|4=>4|59=>85|3=>3|5=>5|46=>84|146=>150|51=>149|n=>n,λ|1=>0|n=>n⟩
theorem Tryd.lays145 : LaysM.n145 Tryd.prog Tryd.lays145_ren:=by repeat'(first|(intros;kernel_rfl)|exact(fun w h => cell_of_shapedOpen_int (zero := #[.int .i64 0]) (t := 3) h (of_decide_eq_true (by kernel_rfl)) (by kernel_rfl) rfl (by kernel_rfl) (by kernel_rfl) Tryd.underlying3)|constructor)

def Tryd.lays146_ren : Shelf.Ren := ⟨λ|146=>44|221=>68|268=>83|138=>84|143=>85|195=>107|197=>108|218=>109|219=>82|260=>122|217=>103|225=>104|224=>105|267=>106|266=>120|314=>121|n=>n,λ|9=>9|31=>59|3=>3|4=>4|0=>0|105=>156|21=>21|5=>5|46=>84|119=>178|139=>181|138=>180|146=>150|51=>149|n=>n,λ|1=>0|3=>4|4=>5|n=>n⟩
theorem Tryd.lays146 : LaysM.n146 Tryd.prog Tryd.lays146_ren:=by repeat'(first|(intros;kernel_rfl)|exact(fun w h => cell_of_shapedOpen_int (zero := #[.int .i64 0]) (t := 3) h (of_decide_eq_true (by kernel_rfl)) (by kernel_rfl) rfl (by kernel_rfl) (by kernel_rfl) Tryd.underlying3)|constructor)

def Tryd.lays105_ren : Shelf.Ren := ⟨λ|105=>66|212=>76|99=>77|165=>78|166=>79|170=>80|169=>81|263=>98|264=>99|206=>100|240=>101|241=>102|276=>118|277=>119|n=>n,λ|9=>9|3=>3|4=>4|20=>20|0=>0|46=>84|109=>126|5=>5|72=>131|76=>97|51=>149|146=>150|53=>76|148=>152|70=>129|37=>79|75=>27|127=>154|164=>169|80=>29|n=>n,λ n=>n⟩
theorem Tryd.lays105 : Lays.n105 Tryd.prog Tryd.lays105_ren:=by repeat'(first|(intros;kernel_rfl)|constructor)

theorem Tryd.extra105 : Builder.Extra Tryd.prog Tryd.lays105_ren := { sizeBuilder := by kernel_rfl, liesBuilder := by kernel_rfl, t5 := Tryd.underlying5, a5 := Tryd.isAgg5, z5 := Tryd.sizeOf5, v5 := Tryd.zeroValue5, infoByte := by kernel_rfl, cellsByte := by kernel_rfl, sizeByte := by kernel_rfl, neB5 := by decide }
end Go.Proofs
namespace Go.Proofs.YthhepmakjimhlaaDoor.CwTagSays
open Go Go.Cw Go.Proofs Go.ChangeShapes Go.WideShapes Go.ChangeAt Go.RowKit
open Go.ChangeMaps (open_string shut_string)
set_option linter.unusedVariables false

theorem own : ownKnob Tryd.prog.godebug = none := by kernel_rfl
theorem laidOut : laidOutB Tryd.prog = true := by kernel_rfl

abbrev G : Ctx := GF Tryd.prog N
/-- what the row's condition and the world's shape give -/
def Facts (W : World) : Prop := Lib.TabIs Tryd.prog W "internal/strconv.uint64pow10" .u64 Lib.pow10Tab ∧ W.ShapedOpen Tryd.prog
theorem facts {W : World} (hL : laidMetH Tryd.prog Rows.tagSaysRow.laid W) (hsh : W.ShapedOpen Tryd.prog) : Facts W := by
  have h1 := hL.filter fun x => x.1 == "internal/strconv.uint64pow10"
  have e : (Rows.tagSaysRow.laid.filter fun x => x.1 == "internal/strconv.uint64pow10") = [("internal/strconv.uint64pow10", Lib.tabData .u64 Lib.pow10Tab)] := by rfl
  rw [e, MakeChecks.laidMetH_plain _ _ _ (by kernel_rfl)] at h1
  exact ⟨Lib.tabIs_of_head (g := 3) (t := 165) (e := 76) (n := 20) (by kernel_rfl) (by kernel_rfl) (by kernel_rfl) (by kernel_rfl) (by kernel_rfl) (by kernel_rfl) h1, hsh⟩
theorem c176 (W : World) (h : Facts W) : Sat (S176n (full W)) (G 176) := fun args h' K hx => .inl ⟨⟨Tryd.f32, Tryd.func32, by kernel_rfl, by kernel_rfl⟩, fun w hs => c176n_of Tryd.lays171 h.1 args h' K hx w hs⟩
theorem c193 : Sat S193 (G 193) := fun args h' K hx => .inl ⟨⟨Tryd.f66, Tryd.func66, by kernel_rfl, by kernel_rfl⟩, fun w hs => c193_of Tryd.lays105 Tryd.extra105 args h' K hx w hs⟩
theorem c180 (W : World) (h : Facts W) : Sat (S180 (full W)) (G 180) := fun args h' K hx => .inl ⟨⟨Tryd.f43, Tryd.func43, by kernel_rfl, by kernel_rfl⟩, fun w hs => c180_of Tryd.lays145 h.2 args h' K hx w hs⟩
theorem c181 (W : World) (h : Facts W) : Sat (S181 (full W)) (G 181) := fun args h' K hx => .inl ⟨⟨Tryd.f44, Tryd.func44, by kernel_rfl, by kernel_rfl⟩, fun w hs => c181_of Tryd.lays146 h.2 args h' K hx w hs⟩
theorem c19 : Sat (S19 N) (G 19) := Sat.of has19 F19_ok
theorem c79 : Sat S79 (G 79) := Sat.of has79 F79_ok
theorem c85 : Sat S85 (G 85) := Sat.of has85 F85_ok
theorem c117 : Sat S117 (G 117) := Sat.of has117 F117_ok
theorem c107 : Sat S107 (G 107) := Sat.of has107 F107_ok
theorem c128 : Sat S128 (G 128) := Sat.of has128 (F128_ok c79 c85)
theorem c108 : Sat (S108 N) (G 108) := Sat.of has108 (F108_ok c107 c117)
theorem c127 : Sat S127 (G 127) := Sat.of has127 F127_ok
theorem c110 : Sat S110 (G 110) := Sat.of has110 (F110_ok c127 c79 c128)
theorem c106 : Sat S106 (G 106) := Sat.of has106 F106_ok
theorem c81 : Sat (S81 N) (G 81) := Sat.of has81 (F81_ok c106 c107 c108)
theorem c80 : Sat S80 (G 80) := Sat.of has80 F80_ok
theorem c65 : Sat S65 (G 65) := Sat.of has65 (F65_ok c79 c80)
theorem c177 : Sat S177 (G 177) := Sat.of has177 F177_ok
theorem c182 : Sat S182 (G 182) := Sat.of has182 F182_ok
theorem c184 : Sat S184 (G 184) := Sat.of has184 F184_ok
theorem c183 : Sat S183 (G 183) := Sat.of has183 F183_ok
theorem c179 : Sat S179 (G 179) := Sat.of has179 (F179_ok c85)
theorem c164 : Sat S164 (G 164) := Sat.of has164 (F164_ok c79 c85 c179)
theorem c162 : Sat (S162 N) (G 162) := Sat.of has162 (F162_ok c108 c107)
theorem c166 : Sat S166 (G 166) := Sat.of has166 (F166_ok c183 c184 c128 c164)
theorem c178 (W : World) (h : Facts W) : Sat (S178 (full W)) (G 178) := Sat.of has178 (F178_ok (c176 W h) c193)
theorem c163 (W : World) (h : Facts W) : Sat (S163 (full W) N) (G 163) := Sat.of has163 (F163_ok c108 c107 c177 (c176 W h) (c178 W h))
theorem c165 (W : World) (h : Facts W) : Sat (S165 (full W) N) (G 165) := Sat.of has165 (F165_ok (c180 W h) (c181 W h) c182 c177 (c163 W h))
theorem c161 (W : World) (h : Facts W) : Sat (S161 (full W)) (G 161) := Sat.of has161 (F161_ok (c163 W h) c19)
theorem c158 (W : World) (h : Facts W) : Sat (S158 (full W)) (G 158) := Sat.of has158 (F158_ok (c161 W h) c128 c162 (c163 W h) c108 c19 c65 c164 c81 c110 (c165 W h) c166)

/-- the wrap that keeps the laid condition and the world's shape -/
theorem wrap {H : Type} {enc : TypeId × Value → H} {a : Assume} {C : Checked} {os : Os} {f : FuncId} {fn : Func} {s : ChangeSpec} {conds : List PathCond} {apart fresh handsOn again : Bool} {X : World → Array Value → Prop}
    (hX : ∀ (w w' : World) (args : Array Value), w.heap = w'.heap → X w args → X w' args)
    (own : ownKnob C.prog.godebug = none) (started : os.Started) (noInit : C.prog.inits.idxOf? f = none) (hfn : C.prog.funcs[f]? = some fn)
    (witness : ∃ (w : World) (tape : Tape) (i : Input), w.os = os ∧ (w.forCall tape i).Shaped C.prog ∧ i.vars = [] ∧ Input.okWide C.prog (w.forCall tape i) .any w.heap.size f i ∧
      ((s.pre enc C.prog fn conds apart (w.forCall tape i).memory i.args ∧ X (w.forCall tape i).memory i.args) ∧ sizedMet enc C.prog fn (OpenSpec.ofChange s) apart (w.forCall tape i).memory i.args) ∧ a.holds C.prog (lone (Frame.enter C.prog f i.args .normal) [] (w.forCall tape i)))
    (contract : ∀ (W : World) (base : Nat) (args : Array Value) (ds gs : List (DataW H)) (before : List MemPlace),
      (∀ (j : Nat) t v, fn.params[j]? = some t → args[j]? = some v → Value.okWide C.prog W .any base t v) →
      DataW.Whole enc C.prog fn.params.toList s.vars apart W args.toList ds gs before → X W args → W.ShapedOpen C.prog →
      Calls C.prog f args W fun e W' => ∃ v, e = .returned v ∧ s.post enc C.prog fn apart fresh handsOn again W args v W') :
    ReturnsInHanded a C os f .any (fun w args => (s.pre enc C.prog fn conds apart w args ∧ X w args) ∧ sizedMet enc C.prog fn (OpenSpec.ofChange s) apart w args) (s.post enc C.prog fn apart fresh handsOn again) := by
  refine returnsInHanded_of_calls own started noInit witness ?_
  intro w tape i _ hsh _ hok hpre hholds
  obtain ⟨_, _, _, fn', hfn', _, _, _, _, hval⟩ := hok
  have e : fn' = fn := Option.some.inj (hfn'.symm.trans hfn)
  subst e
  obtain ⟨⟨⟨ds, gs, before, hw, hc⟩, hx⟩, hz⟩ := hpre
  have hw' := DataW.Whole.of_heap (w' := w.forCall tape i) (by rfl) hw
  refine (contract (w.forCall tape i) w.heap.size i.args ds gs before hval hw' (hX _ _ _ (by rfl) hx) hsh).mono fun e W' ⟨v, he, hp⟩ => ?_
  subst he
  exact ChangeSpec.post_blind hp

set_option maxRecDepth 100000 in
theorem lifted (os : Os) (started : os.Started) (H : Type) (enc : TypeId × Value → H) :
    ReturnsInHanded {} Tryd.checked os 4 .any (fun w args => (Rows.tagSaysSpec.pre enc Tryd.prog Tryd.f4 [] false w args ∧ laidMetH Tryd.prog Rows.tagSaysRow.laid w) ∧ sizedMet enc Tryd.prog Tryd.f4 (OpenSpec.ofChange Rows.tagSaysSpec) false w args)
      (Rows.tagSaysSpec.post enc Tryd.prog Tryd.f4 false true false false) := by
  refine wrap (C := Tryd.checked) (X := fun w _ => laidMetH Tryd.prog Rows.tagSaysRow.laid w) (fun _ _ _ hh h => h.of_heap hh) own started (by kernel_rfl) Tryd.func4
    (ChangeSpec.witness_shaped (enc := enc) (C := Tryd.checked) (os := os) (X := fun w _ => laidMetH Tryd.prog Rows.tagSaysRow.laid w) false (World.laidAll Tryd.prog os Rows.tagSaysRow.laid) #[.agg #[.int .i64 0, .int .i64 0, .int .i64 0, .int .i64 0, .int .i64 0, .int .i64 0], .string .empty, .string .empty] 8 (World.laidAll_os _ _ _) (World.shaped_of_ZipB (by kernel_rfl) (by kernel_rfl)) (by kernel_rfl) (by kernel_rfl) (by kernel_rfl)
      (by rw [MakeChecks.laidMetH_plain _ _ _ (by kernel_rfl)]; exact laidMet_laidAll _ (by kernel_rfl) (by kernel_rfl))) ?_
  intro W base args ds gs before hval0 hW hL hsh
  have hfacts : Facts W := facts hL hsh
  have hval : ∀ (j : Nat) t v, Tryd.f4.params[j]? = some t → args[j]? = some v → Value.okWide Tryd.prog W .any base t v := hval0
  have hW' := hW
  obtain ⟨p, q, hA0, hV, rfl, hfz, hnd⟩ := hW
  have hA : DataW.TrodAll enc Tryd.prog W 0 (fun _ => true) true Tryd.f4.params.toList args.toList ds p := hA0
  rw [Tryd.params4] at hA hval
  obtain ⟨v0, vs0, d0, ds0, p0, q0, hargs, rfl, rfl, h0, r0⟩ := trodAll_cons hA
  obtain ⟨v1, vs1, d1, ds1, p1, q1, rfl, rfl, rfl, h1, r1⟩ := trodAll_cons r0
  obtain ⟨v2, vs2, d2, ds2, p2, q2, rfl, rfl, rfl, h2, r2⟩ := trodAll_cons r1
  obtain ⟨rfl, rfl, rfl⟩ := trodAll_nil r2
  obtain rfl : args = #[v0, v1, v2] := by cases args; simp_all
  obtain ⟨rfl, rfl⟩ := trodVars_none hV
  have k0 := h0
  have lt0 : ∀ x ∈ p0, x.block < W.heap.size := by obtain ⟨m, hm⟩ := k0; exact DataW.trod_lt m _ _ _ hm
  obtain ⟨cs0, rfl⟩ := okWide_ag Tryd.underlying32 (hval 0 32 v0 rfl rfl)
  obtain ⟨x0, hx0⟩ : ∃ x, (.agg cs0) = aggT x ∧ x.company ≤ 9223372036854775807 ∧ x.ref ≤ 9223372036854775807 := by obtain ⟨fuel, hf⟩ := h0; exact mat_tag (mat_of_trod 12 32 tagTy fuel _ _ (by kernel_rfl) hf)
  have k1 := h1
  have lt1 : ∀ x ∈ p1, x.block < W.heap.size := by obtain ⟨m, hm⟩ := k1; exact DataW.trod_lt m _ _ _ hm
  obtain ⟨s1, rfl, _, _, w1⟩ := open_string Tryd.underlying9 (hval 1 9 v1 rfl rfl) h1
  have k2 := h2
  have lt2 : ∀ x ∈ p2, x.block < W.heap.size := by obtain ⟨m, hm⟩ := k2; exact DataW.trod_lt m _ _ _ hm
  obtain ⟨s2, rfl, _, _, w2⟩ := open_string Tryd.underlying9 (hval 2 9 v2 rfl rfl) h2
  clear hA0 hval0
  have hwalk := law_calls (P := Tryd.prog) (N := N) (k := 158) (f := 4) (w := W) rfl Tryd.func4 (by kernel_rfl) (c158 W hfacts _ _ _ ⟨x0, s1.data.toList, s2.data.toList, (show ([.agg cs0, .string s1, .string s2] : List Value) = [aggT x0, .string (str s1.data.toList), .string (str s2.data.toList)] by rw [hx0.1]; rfl), hx0.2.1, hx0.2.2, Heap.le.refl _, fun _ hle => ⟨rfl, hle⟩⟩)
  refine hwalk.mono fun e W' ⟨he, bel⟩ => ?_
  subst he
  exact ⟨_, rfl, _, _, _, [], _, [], hW', trodAll_mk1 (shut_bool Tryd.underlying4 _), (trodAll_cons_mk (Below.trod laidOut (by kernel_rfl) (of_decide_eq_true (by kernel_rfl)) k0 bel lt0) (trodAll_cons_mk (Below.trod laidOut (by kernel_rfl) (of_decide_eq_true (by kernel_rfl)) k1 bel lt1) (trodAll_cons_mk (Below.trod laidOut (by kernel_rfl) (of_decide_eq_true (by kernel_rfl)) k2 bel lt2) trodAll_mk0))), rfl, bel.frame _, fun h => by cases h⟩

theorem over : Rows.TagSaysSaid :=
  OpenClaim.holds_of_wide 4 Tryd.f4 rfl rfl rfl rfl rfl rfl rfl ⟨rfl, rfl, rfl, rfl, rfl⟩ rfl rfl rfl rfl rfl (by kernel_rfl) Tryd.func4 (by kernel_rfl)
    (of_decide_eq_true (by kernel_rfl)) (by unfold Func.isWrapper; first | (rw [if_pos (by decide +kernel)]; kernel_rfl) | (rw [if_neg (of_decide_eq_false (by kernel_rfl))]; exact ⟨rfl, rfl⟩))
    (fun os started H enc _ => lifted os started H enc)
end Go.Proofs.YthhepmakjimhlaaDoor.CwTagSays
namespace Go.Proofs.YthhepmakjimhlaaDoor
theorem tagSays_holds : Rows.TagSaysSaid := CwTagSays.over
theorem tagSaysCard_holds : Rows.TagSaysCardSaid :=
  Claim7.holds_tied_plain_at .later [] [.data, .data, .data, .data, .pinned] true (true, "c51883006657bd9b63622be3047240f53b2d2f19287f35565662fa721652696e") true
    tagSays_holds (fun _ h => by cases h) (by kernel_rfl) (fun _ h => by cases h) tagSays_row_tie rfl ⟨rfl, rfl⟩ (by kernel_rfl) rfl
    (fun f fn hf hfn => by
      obtain rfl : f = 4 := Option.some.inj ((show Tryd.prog.funcNamed "cratewatch/cratewatchlaw.TagSays" = some 4 by kernel_rfl).symm.trans hf) |>.symm
      obtain rfl : fn = Tryd.f4 := (Option.some.inj (Tryd.func4.symm.trans hfn)).symm
      exact ⟨by kernel_rfl, fun j t ht => by
        rw [Tryd.params4] at ht
        have hm : t ∈ [32, 9, 9] := by simpa using Array.mem_of_getElem? ht
        have hall : ([32, 9, 9].all fun u => !Tryd.prog.wantsStandIn u) = true := by kernel_rfl
        exact (show Tryd.prog.wantsStandIn t = false by simpa using List.all_eq_true.1 hall t hm)⟩)
    (by kernel_rfl)
#print axioms tagSaysCard_holds
end Go.Proofs.YthhepmakjimhlaaDoor
