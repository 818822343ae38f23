/- TopTag returns true whatever it is given, and all its arguments read as before. No condition on the input. -/
import Derived.Test.YthhepmakjimhlabDoorCwS
import Derived.Shelf.Strings.Split
import Derived.Shelf.Strings.Cut
import Derived.Shelf.Strings.Repeat
import Derived.Shelf.Strconv.Itoa3
import Derived.Shelf.LaysM
import Derived.Ground.NamesProg
import Derived.WalkKit
import Derived.ProofKit
import Derived.OpenShut
import Derived.ShutString
import Derived.ChangeOld
import Derived.ChangeSame
import Derived.ChangeVars
import Derived.JoinedOf
import Derived.RowKitTokens
import Derived.LaidLaws
import Derived.LaidMore
import Derived.Lay
import Derived.MakeChecks
import Derived.LaidHandle
import Derived.LaidSub
import Derived.HandedShaped
import Derived.Lib.LaidTab
import Derived.Below
import Derived.SevenTiedAt
import Derived.Test.YthhepmakjimhlabDoorCards
import Derived.Test.YthhepmakjimhlabDoorTie
namespace Go.Proofs
open Go.Shelf
def Tryd.lays171_ren : Shelf.Ren := ⟨λ|171=>15|243=>28|246=>35|283=>52|284=>53|285=>54|286=>55|129=>72|317=>71|318=>73|319=>74|320=>75|337=>83|338=>84|n=>n,λ|3=>3|9=>9|2=>2|4=>4|171=>88|0=>0|53=>43|37=>46|5=>5|173=>91|212=>110|51=>93|20=>20|213=>111|46=>50|232=>127|233=>128|n=>n,λ|17=>3|18=>6|19=>7|n=>n⟩
theorem Tryd.lays171 : LaysM.n171 Tryd.prog Tryd.lays171_ren:=by repeat'(first|(intros;kernel_rfl)|constructor)

def Tryd.lays145_ren : Shelf.Ren := ⟨λ|145=>19|220=>30|219=>42|217=>61|225=>62|224=>63|267=>64|266=>78|314=>79|n=>n,λ|9=>9|4=>4|59=>52|3=>3|5=>5|46=>50|146=>94|51=>93|n=>n,λ|1=>0|n=>n⟩
theorem Tryd.lays145 : LaysM.n145 Tryd.prog Tryd.lays145_ren:=by repeat'(first|(intros;kernel_rfl)|exact(fun w h => cell_of_shapedOpen_int (zero := #[.int .i64 0]) (t := 3) h (of_decide_eq_true (by kernel_rfl)) (by kernel_rfl) rfl (by kernel_rfl) (by kernel_rfl) Tryd.underlying3)|constructor)

def Tryd.lays146_ren : Shelf.Ren := ⟨λ|146=>20|221=>31|268=>43|138=>44|143=>45|195=>65|197=>66|218=>67|219=>42|260=>80|217=>61|225=>62|224=>63|267=>64|266=>78|314=>79|n=>n,λ|9=>9|31=>54|3=>3|4=>4|0=>0|105=>101|21=>21|5=>5|46=>50|119=>123|139=>126|138=>125|146=>94|51=>93|n=>n,λ|1=>0|3=>4|4=>5|n=>n⟩
theorem Tryd.lays146 : LaysM.n146 Tryd.prog Tryd.lays146_ren:=by repeat'(first|(intros;kernel_rfl)|exact(fun w h => cell_of_shapedOpen_int (zero := #[.int .i64 0]) (t := 3) h (of_decide_eq_true (by kernel_rfl)) (by kernel_rfl) rfl (by kernel_rfl) (by kernel_rfl) Tryd.underlying3)|constructor)

def Tryd.lays105_ren : Shelf.Ren := ⟨λ|105=>29|212=>36|99=>37|165=>38|166=>39|170=>40|169=>41|263=>56|264=>57|206=>58|240=>59|241=>60|276=>76|277=>77|n=>n,λ|9=>9|3=>3|4=>4|20=>20|0=>0|46=>50|109=>73|5=>5|72=>78|76=>60|51=>93|146=>94|53=>43|148=>96|70=>76|37=>46|75=>25|127=>98|164=>114|80=>59|n=>n,λ n=>n⟩
theorem Tryd.lays105 : Lays.n105 Tryd.prog Tryd.lays105_ren:=by repeat'(first|(intros;kernel_rfl)|constructor)

theorem Tryd.extra105 : Builder.Extra Tryd.prog Tryd.lays105_ren := { sizeBuilder := by kernel_rfl, liesBuilder := by kernel_rfl, t5 := Tryd.underlying5, a5 := Tryd.isAgg5, z5 := Tryd.sizeOf5, v5 := Tryd.zeroValue5, infoByte := by kernel_rfl, cellsByte := by kernel_rfl, sizeByte := by kernel_rfl, neB5 := by decide }
end Go.Proofs
namespace Go.Proofs.YthhepmakjimhlabDoor.CwTopTag
open Go Go.Cw Go.Proofs Go.ChangeShapes Go.WideShapes Go.ChangeAt Go.RowKit
open Go.ChangeMaps (open_string shut_string)
set_option linter.unusedVariables false

theorem own : ownKnob Tryd.prog.godebug = none := by kernel_rfl
theorem laidOut : laidOutB Tryd.prog = true := by kernel_rfl

abbrev G : Ctx := GF Tryd.prog N
/-- what the row's condition and the world's shape give -/
def Facts (W : World) : Prop := Lib.TabIs Tryd.prog W "internal/strconv.uint64pow10" .u64 Lib.pow10Tab ∧ W.ShapedOpen Tryd.prog
theorem facts {W : World} (hL : laidMetH Tryd.prog Rows.topTagRow.laid W) (hsh : W.ShapedOpen Tryd.prog) : Facts W := by
  have h1 := hL.filter fun x => x.1 == "internal/strconv.uint64pow10"
  have e : (Rows.topTagRow.laid.filter fun x => x.1 == "internal/strconv.uint64pow10") = [("internal/strconv.uint64pow10", Lib.tabData .u64 Lib.pow10Tab)] := by rfl
  rw [e, MakeChecks.laidMetH_plain _ _ _ (by kernel_rfl)] at h1
  exact ⟨Lib.tabIs_of_head (g := 3) (t := 110) (e := 43) (n := 20) (by kernel_rfl) (by kernel_rfl) (by kernel_rfl) (by kernel_rfl) (by kernel_rfl) (by kernel_rfl) h1, hsh⟩
theorem c176 (W : World) (h : Facts W) : Sat (S176n (full W)) (G 176) := fun args h' K hx => .inl ⟨⟨Tryd.f15, Tryd.func15, by kernel_rfl, by kernel_rfl⟩, fun w hs => c176n_of Tryd.lays171 h.1 args h' K hx w hs⟩
theorem c193 : Sat S193 (G 193) := fun args h' K hx => .inl ⟨⟨Tryd.f29, Tryd.func29, by kernel_rfl, by kernel_rfl⟩, fun w hs => c193_of Tryd.lays105 Tryd.extra105 args h' K hx w hs⟩
theorem c180 (W : World) (h : Facts W) : Sat (S180 (full W)) (G 180) := fun args h' K hx => .inl ⟨⟨Tryd.f19, Tryd.func19, by kernel_rfl, by kernel_rfl⟩, fun w hs => c180_of Tryd.lays145 h.2 args h' K hx w hs⟩
theorem c181 (W : World) (h : Facts W) : Sat (S181 (full W)) (G 181) := fun args h' K hx => .inl ⟨⟨Tryd.f20, Tryd.func20, by kernel_rfl, by kernel_rfl⟩, fun w hs => c181_of Tryd.lays146 h.2 args h' K hx w hs⟩
theorem c117 : Sat S117 (G 117) := Sat.of has117 F117_ok
theorem c107 : Sat S107 (G 107) := Sat.of has107 F107_ok
theorem c108 : Sat (S108 N) (G 108) := Sat.of has108 (F108_ok c107 c117)
theorem c106 : Sat S106 (G 106) := Sat.of has106 F106_ok
theorem c81 : Sat (S81 N) (G 81) := Sat.of has81 (F81_ok c106 c107 c108)
theorem c177 : Sat S177 (G 177) := Sat.of has177 F177_ok
theorem c182 : Sat S182 (G 182) := Sat.of has182 F182_ok
theorem c162 : Sat (S162 N) (G 162) := Sat.of has162 (F162_ok c108 c107)
theorem c178 (W : World) (h : Facts W) : Sat (S178 (full W)) (G 178) := Sat.of has178 (F178_ok (c176 W h) c193)
theorem c163 (W : World) (h : Facts W) : Sat (S163 (full W) N) (G 163) := Sat.of has163 (F163_ok c108 c107 c177 (c176 W h) (c178 W h))
theorem c165 (W : World) (h : Facts W) : Sat (S165 (full W) N) (G 165) := Sat.of has165 (F165_ok (c180 W h) (c181 W h) c182 c177 (c163 W h))
theorem c289 (W : World) (h : Facts W) : Sat (S289 (full W)) (G 289) := Sat.of has289 (F289_ok c162 (c163 W h) c81 c108 (c165 W h))

/-- the wrap that keeps the laid condition and the world's shape -/
theorem wrap {H : Type} {enc : TypeId × Value → H} {a : Assume} {C : Checked} {os : Os} {f : FuncId} {fn : Func} {s : ChangeSpec} {conds : List PathCond} {apart fresh handsOn again : Bool} {X : World → Array Value → Prop}
    (hX : ∀ (w w' : World) (args : Array Value), w.heap = w'.heap → X w args → X w' args)
    (own : ownKnob C.prog.godebug = none) (started : os.Started) (noInit : C.prog.inits.idxOf? f = none) (hfn : C.prog.funcs[f]? = some fn)
    (witness : ∃ (w : World) (tape : Tape) (i : Input), w.os = os ∧ (w.forCall tape i).Shaped C.prog ∧ i.vars = [] ∧ Input.okWide C.prog (w.forCall tape i) .any w.heap.size f i ∧
      ((s.pre enc C.prog fn conds apart (w.forCall tape i).memory i.args ∧ X (w.forCall tape i).memory i.args) ∧ sizedMet enc C.prog fn (OpenSpec.ofChange s) apart (w.forCall tape i).memory i.args) ∧ a.holds C.prog (lone (Frame.enter C.prog f i.args .normal) [] (w.forCall tape i)))
    (contract : ∀ (W : World) (base : Nat) (args : Array Value) (ds gs : List (DataW H)) (before : List MemPlace),
      (∀ (j : Nat) t v, fn.params[j]? = some t → args[j]? = some v → Value.okWide C.prog W .any base t v) →
      DataW.Whole enc C.prog fn.params.toList s.vars apart W args.toList ds gs before → X W args → W.ShapedOpen C.prog →
      Calls C.prog f args W fun e W' => ∃ v, e = .returned v ∧ s.post enc C.prog fn apart fresh handsOn again W args v W') :
    ReturnsInHanded a C os f .any (fun w args => (s.pre enc C.prog fn conds apart w args ∧ X w args) ∧ sizedMet enc C.prog fn (OpenSpec.ofChange s) apart w args) (s.post enc C.prog fn apart fresh handsOn again) := by
  refine returnsInHanded_of_calls own started noInit witness ?_
  intro w tape i _ hsh _ hok hpre hholds
  obtain ⟨_, _, _, fn', hfn', _, _, _, _, hval⟩ := hok
  have e : fn' = fn := Option.some.inj (hfn'.symm.trans hfn)
  subst e
  obtain ⟨⟨⟨ds, gs, before, hw, hc⟩, hx⟩, hz⟩ := hpre
  have hw' := DataW.Whole.of_heap (w' := w.forCall tape i) (by rfl) hw
  refine (contract (w.forCall tape i) w.heap.size i.args ds gs before hval hw' (hX _ _ _ (by rfl) hx) hsh).mono fun e W' ⟨v, he, hp⟩ => ?_
  subst he
  exact ChangeSpec.post_blind hp

set_option maxRecDepth 100000 in
theorem lifted (os : Os) (started : os.Started) (H : Type) (enc : TypeId × Value → H) :
    ReturnsInHanded {} Tryd.checked os 3 .any (fun w args => (Rows.topTagSpec.pre enc Tryd.prog Tryd.f3 [] false w args ∧ laidMetH Tryd.prog Rows.topTagRow.laid w) ∧ sizedMet enc Tryd.prog Tryd.f3 (OpenSpec.ofChange Rows.topTagSpec) false w args)
      (Rows.topTagSpec.post enc Tryd.prog Tryd.f3 false true false false) := by
  refine wrap (C := Tryd.checked) (X := fun w _ => laidMetH Tryd.prog Rows.topTagRow.laid w) (fun _ _ _ hh h => h.of_heap hh) own started (by kernel_rfl) Tryd.func3
    (ChangeSpec.witness_shaped (enc := enc) (C := Tryd.checked) (os := os) (X := fun w _ => laidMetH Tryd.prog Rows.topTagRow.laid w) false (World.laidAll Tryd.prog os Rows.topTagRow.laid) #[.agg #[.int .i64 0, .int .i64 0, .int .i64 0, .int .i64 0, .int .i64 0, .int .i64 0], .agg #[.int .i64 0, .int .i64 0, .int .i64 0, .int .i64 0, .int .i64 0, .int .i64 0], .string .empty, .string .empty] 8 (World.laidAll_os _ _ _) (World.shaped_of_ZipB (by kernel_rfl) (by kernel_rfl)) (by kernel_rfl) (by kernel_rfl) (by kernel_rfl)
      (by rw [MakeChecks.laidMetH_plain _ _ _ (by kernel_rfl)]; exact laidMet_laidAll _ (by kernel_rfl) (by kernel_rfl))) ?_
  intro W base args ds gs before hval0 hW hL hsh
  have hfacts : Facts W := facts hL hsh
  have hval : ∀ (j : Nat) t v, Tryd.f3.params[j]? = some t → args[j]? = some v → Value.okWide Tryd.prog W .any base t v := hval0
  have hW' := hW
  obtain ⟨p, q, hA0, hV, rfl, hfz, hnd⟩ := hW
  have hA : DataW.TrodAll enc Tryd.prog W 0 (fun _ => true) true Tryd.f3.params.toList args.toList ds p := hA0
  rw [Tryd.params3] at hA hval
  obtain ⟨v0, vs0, d0, ds0, p0, q0, hargs, rfl, rfl, h0, r0⟩ := trodAll_cons hA
  obtain ⟨v1, vs1, d1, ds1, p1, q1, rfl, rfl, rfl, h1, r1⟩ := trodAll_cons r0
  obtain ⟨v2, vs2, d2, ds2, p2, q2, rfl, rfl, rfl, h2, r2⟩ := trodAll_cons r1
  obtain ⟨v3, vs3, d3, ds3, p3, q3, rfl, rfl, rfl, h3, r3⟩ := trodAll_cons r2
  obtain ⟨rfl, rfl, rfl⟩ := trodAll_nil r3
  obtain rfl : args = #[v0, v1, v2, v3] := by cases args; simp_all
  obtain ⟨rfl, rfl⟩ := trodVars_none hV
  have k0 := h0
  have lt0 : ∀ x ∈ p0, x.block < W.heap.size := by obtain ⟨m, hm⟩ := k0; exact DataW.trod_lt m _ _ _ hm
  obtain ⟨cs0, rfl⟩ := okWide_ag Tryd.underlying23 (hval 0 23 v0 rfl rfl)
  obtain ⟨x0, hx0⟩ : ∃ x, (.agg cs0) = aggT x ∧ x.company ≤ 9223372036854775807 ∧ x.ref ≤ 9223372036854775807 := by obtain ⟨fuel, hf⟩ := h0; exact mat_tag (mat_of_trod 12 23 tagTy fuel _ _ (by kernel_rfl) hf)
  have k1 := h1
  have lt1 : ∀ x ∈ p1, x.block < W.heap.size := by obtain ⟨m, hm⟩ := k1; exact DataW.trod_lt m _ _ _ hm
  obtain ⟨cs1, rfl⟩ := okWide_ag Tryd.underlying23 (hval 1 23 v1 rfl rfl)
  obtain ⟨x1, hx1⟩ : ∃ x, (.agg cs1) = aggT x ∧ x.company ≤ 9223372036854775807 ∧ x.ref ≤ 9223372036854775807 := by obtain ⟨fuel, hf⟩ := h1; exact mat_tag (mat_of_trod 12 23 tagTy fuel _ _ (by kernel_rfl) hf)
  have k2 := h2
  have lt2 : ∀ x ∈ p2, x.block < W.heap.size := by obtain ⟨m, hm⟩ := k2; exact DataW.trod_lt m _ _ _ hm
  obtain ⟨s2, rfl, _, _, w2⟩ := open_string Tryd.underlying9 (hval 2 9 v2 rfl rfl) h2
  have k3 := h3
  have lt3 : ∀ x ∈ p3, x.block < W.heap.size := by obtain ⟨m, hm⟩ := k3; exact DataW.trod_lt m _ _ _ hm
  obtain ⟨s3, rfl, _, _, w3⟩ := open_string Tryd.underlying9 (hval 3 9 v3 rfl rfl) h3
  clear hA0 hval0
  have hwalk := law_calls (P := Tryd.prog) (N := N) (k := 289) (f := 3) (w := W) rfl Tryd.func3 (by kernel_rfl) (c289 W hfacts _ _ _ ⟨x0, x1, s2.data.toList, s3.data.toList, (show ([.agg cs0, .agg cs1, .string s2, .string s3] : List Value) = [aggT x0, aggT x1, .string (str s2.data.toList), .string (str s3.data.toList)] by rw [hx0.1, hx1.1]; rfl), Heap.le.refl _, fun _ hle => ⟨rfl, hle⟩⟩)
  refine hwalk.mono fun e W' ⟨he, bel⟩ => ?_
  subst he
  exact ⟨_, rfl, _, _, _, [], _, [], hW', trodAll_mk1 (shut_bool Tryd.underlying4 _), (trodAll_cons_mk (Below.trod laidOut (by kernel_rfl) (of_decide_eq_true (by kernel_rfl)) k0 bel lt0) (trodAll_cons_mk (Below.trod laidOut (by kernel_rfl) (of_decide_eq_true (by kernel_rfl)) k1 bel lt1) (trodAll_cons_mk (Below.trod laidOut (by kernel_rfl) (of_decide_eq_true (by kernel_rfl)) k2 bel lt2) (trodAll_cons_mk (Below.trod laidOut (by kernel_rfl) (of_decide_eq_true (by kernel_rfl)) k3 bel lt3) trodAll_mk0)))), rfl, bel.frame _, fun h => by cases h⟩

theorem over : Rows.TopTagSaid :=
  OpenClaim.holds_of_wide 3 Tryd.f3 rfl rfl rfl rfl rfl rfl rfl ⟨rfl, rfl, rfl, rfl, rfl⟩ rfl rfl rfl rfl rfl (by kernel_rfl) Tryd.func3 (by kernel_rfl)
    (of_decide_eq_true (by kernel_rfl)) (by unfold Func.isWrapper; first | (rw [if_pos (by decide +kernel)]; kernel_rfl) | (rw [if_neg (of_decide_eq_false (by kernel_rfl))]; exact ⟨rfl, rfl⟩))
    (fun os started H enc _ => lifted os started H enc)
end Go.Proofs.YthhepmakjimhlabDoor.CwTopTag
namespace Go.Proofs.YthhepmakjimhlabDoor
theorem topTag_holds : Rows.TopTagSaid := CwTopTag.over
theorem topTagCard_holds : Rows.TopTagCardSaid :=
  Claim7.holds_tied_plain_at .later [] [.data, .data, .data, .data, .pinned] true (true, "f0d926cb751c76e395ca0169ae8d14f11df2a9c10f5f909e9a3e4f6b47bf7da5") true
    topTag_holds (fun _ h => by cases h) (by kernel_rfl) (fun _ h => by cases h) topTag_row_tie rfl ⟨rfl, rfl⟩ (by kernel_rfl) rfl
    (fun f fn hf hfn => by
      obtain rfl : f = 3 := Option.some.inj ((show Tryd.prog.funcNamed "cratewatch/cratewatchtop.TopTag" = some 3 by kernel_rfl).symm.trans hf) |>.symm
      obtain rfl : fn = Tryd.f3 := (Option.some.inj (Tryd.func3.symm.trans hfn)).symm
      exact ⟨by kernel_rfl, fun j t ht => by
        rw [Tryd.params3] at ht
        have hm : t ∈ [23, 23, 9, 9] := by simpa using Array.mem_of_getElem? ht
        have hall : ([23, 23, 9, 9].all fun u => !Tryd.prog.wantsStandIn u) = true := by kernel_rfl
        exact (show Tryd.prog.wantsStandIn t = false by simpa using List.all_eq_true.1 hall t hm)⟩)
    (by kernel_rfl)
#print axioms topTagCard_holds
end Go.Proofs.YthhepmakjimhlabDoor
