/- Part 1 of the proof of TopRule: a small language for the program's functions, its soundness, and what the functions do. No conditions beyond the theorems' own. -/
import Derived.Test.YthhepmakjimhlabDoorCw0
import Derived.Below
import Derived.Deep.LoopGhost
import Derived.IntWalk
import Derived.Orders
import Derived.OrdersIn
import Derived.RangeFuncLeaves
import Derived.RangeFuncRecord
import Derived.RangeFuncSeq
import Derived.Sort.LoopGhostIn
set_option linter.unusedSimpArgs false
set_option linter.unusedVariables false
namespace Go.Cw
open Go
def condEx (m : Lmap) : Operand → Option Ex
  | .tmp t =>
    match idxOf t 0 m with
    | some (i, false) => some (.var i)
    | _ => none
  | .const (.bool b) => some (.con (.bool b))
  | _ => none
def exOf : SE → Exit
  | .normal => .normal
  | .exit id => .exit id
  | .ret => .ret
variable {P : Program} {N : Num} {tk fk : Nat → Option Nat} {Γ : Ctx}
def Lift (m : Lmap) (nt : Nat) (h0 : Heap) (w0 : World) (Q : SE → Env → Heap → Prop) (Q' : Exit → Act → World → Prop) : Prop :=
  ∀ e pb env h a w, Q e env h → Rel m nt h0 w0 pb env h a w → Q' (exOf e) a w
def Sound (P : Program) (N : Num) (Γ : Ctx) (m : Lmap) (nt : Nat) (s : St) (c : Code) : Prop :=
  ∀ (h0 : Heap) (w0 : World) (Q : SE → Env → Heap → Prop) (Q' : Exit → Act → World → Prop) (pb : Nat → Option Nat) (env : Env) (h : Heap) (a : Act) (w : World),
    SW N Γ s Q env h → Rel m nt h0 w0 pb env h a w → Lift m nt h0 w0 Q Q' → c.wp P Q' a w
theorem sound_reg (htk : ∀ t k, tk t = some k → N.tid k = t) (hfk : ∀ f k, fk f = some k → N.fid k = f) (hΓ : Good P N Γ) {m : Lmap} {nt : Nat} (hnd : (m.map (·.1)).Nodup) {id : Nat} {ops : Array Oper} {l : List Stg}
    (hl : stages P tk fk ops nt m [] (List.range ops.size) = some l) : Sound P N Γ m nt (.reg l) (.region id ops false) := by
  intro h0 w0 Q Q' pb env h a w hK hr hQ
  refine wp_region ?_
  have := stages_sound htk hfk hΓ hnd (Q := Q') (h0 := h0) (w0 := w0) (List.range ops.size) [] l pb env h a w (Q .normal) hl hr (by simpa only [SW] using hK) (fun pb env h a w hk hr => hQ .normal pb env h a w hk hr)
  simpa using this
theorem sound_seq {m : Lmap} {nt : Nat} {s t : St} {c d : Code} (hs : Sound P N Γ m nt s c) (ht : Sound P N Γ m nt t d) : Sound P N Γ m nt (.seq s t) (.seq c d) := by
  intro h0 w0 Q Q' pb env h a w hK hr hQ
  simp only [SW] at hK
  refine wp_seq (hs h0 w0 _ _ pb env h a w hK hr ?_)
  intro e pb env h a w hq hr
  cases e with
  | normal => exact ht h0 w0 Q Q' pb env h a w hq hr hQ
  | exit id => exact hQ (.exit id) pb env h a w hq hr
  | ret => exact hQ .ret pb env h a w hq hr
theorem sound_cond {m : Lmap} {nt : Nat} {s t : St} {c d : Code} {x : Operand} {e : Ex} (hx : condEx m x = some e) (hs : Sound P N Γ m nt s c) (ht : Sound P N Γ m nt t d) : Sound P N Γ m nt (.cond e s t) (.cond x c d) := by
  intro h0 w0 Q Q' pb env h a w hK hr hQ
  simp only [SW] at hK
  obtain ⟨b, hb, h1, h2⟩ := hK
  have hev : a.eval x = .bool b := by
    unfold condEx at hx
    split at hx
    · rename_i t'
      split at hx <;> cases hx
      rename_i i hi
      obtain ⟨j, rfl, hj⟩ := idxOf_spec m 0 _ _ hi
      simp only [ev, Option.map_eq_some_iff] at hb
      obtain ⟨v, h3, h4⟩ := hb
      cases h4
      rw [Nat.zero_add] at h3
      exact hr.plain j t' hj _ h3
    · cases hx
      simp only [ev] at hb; cases hb; rfl
    · cases hx
  cases b with
  | true => exact wp_cond_true hev (hs h0 w0 Q Q' pb env h a w (h1 rfl) hr hQ)
  | false => exact wp_cond_false hev (ht h0 w0 Q Q' pb env h a w (h2 rfl) hr hQ)
theorem sound_block {m : Lmap} {nt : Nat} {id : Nat} {s : St} {c : Code} (hs : Sound P N Γ m nt s c) : Sound P N Γ m nt (.block id s) (.block id c) := by
  intro h0 w0 Q Q' pb env h a w hK hr hQ
  simp only [SW] at hK
  refine wp_block (hs h0 w0 _ _ pb env h a w hK hr ?_)
  intro e pb env h a w hq hr
  cases e with
  | normal => exact hQ .normal pb env h a w hq hr
  | exit j =>
    simp only [exOf, Exit.inBlock]
    split
    · rename_i e; simp only [e, if_true] at hq; exact hQ .normal pb env h a w hq hr
    · rename_i e; simp only [e, if_false] at hq; exact hQ (.exit j) pb env h a w hq hr
  | ret => exact hQ .ret pb env h a w hq hr
theorem sound_loop {m : Lmap} {nt : Nat} {s : St} {c : Code} (hs : Sound P N Γ m nt s c) : Sound P N Γ m nt (.loop s) (.loop c) := by
  intro h0 w0 Q Q' pb env h a w hK hr hQ
  simp only [SW] at hK
  obtain ⟨I, n, hI, hround⟩ := hK
  refine wp_loop_ghost (fun n a w => ∃ pb env h, I n env h ∧ Rel m nt h0 w0 pb env h a w) n ⟨pb, env, h, hI, hr⟩ ?_
  rintro n a w ⟨pb, env, h, hI, hr⟩
  refine hs h0 w0 _ _ pb env h a w (hround n env h hI) hr ?_
  intro e pb env h a w hq hr
  cases e with
  | normal => obtain ⟨n', hlt, hI'⟩ := hq; exact ⟨n', hlt, pb, env, h, hI', hr⟩
  | exit id => exact hQ (.exit id) pb env h a w hq hr
  | ret => exact hQ .ret pb env h a w hq hr
theorem sound_exit {m : Lmap} {nt : Nat} {id : Nat} : Sound P N Γ m nt (.exit id) (.exit id) := fun _ _ _ _ _ _ _ _ _ hK hr hQ => wp_exit (hQ (.exit id) _ _ _ _ _ hK hr)
theorem sound_ret {m : Lmap} {nt : Nat} : Sound P N Γ m nt .ret .ret := fun _ _ _ _ _ _ _ _ _ hK hr hQ => wp_ret (hQ .ret _ _ _ _ _ hK hr)
theorem sound_skip {m : Lmap} {nt : Nat} : Sound P N Γ m nt .skip .skip := fun _ _ _ _ _ _ _ _ _ hK hr hQ => wp_skip (hQ .normal _ _ _ _ _ hK hr)
structure SFun where
  np : Nat
  nv : Nat
  body : St
  res : List Ex
  deriving Inhabited
def tup : List Value → Value
  | [v] => v
  | vs => .tuple vs.toArray
def env0 (nv : Nat) (args : List Value) : Env := args.map some ++ List.replicate (nv - args.length) none
def SF (N : Num) (Γ : Ctx) (F : SFun) (args : List Value) (h : Heap) (K : Value → Heap → Prop) : Prop :=
  args.length = F.np ∧ SW N Γ F.body (fun e env h' => match e with
    | .exit _ => False
    | _ => ∃ vs, evVals N env h' F.res = some vs ∧ K (tup vs) h') (env0 F.nv args) h
def resEx (P : Program) (m : Lmap) : List ResultVar → Option (List Ex)
  | [] => some []
  | .tmp t :: r =>
    match idxOf t 0 m, resEx P m r with
    | some (i, false), some l => some (.var i :: l)
    | _, _ => none
  | .cell t ty :: r =>
    match idxOf t 0 m, aggOf P ty, sizeOf' P ty, resEx P m r with
    | some (i, true), some false, some 1, some l => some (.o1 .ld (.pad i) :: l)
    | some (i, true), some true, some n, some l => some (.o1 (.ldn n) (.pad i) :: l)
    | _, _, _, _ => none
theorem res_sound {m : Lmap} {nt : Nat} {h0 : Heap} {w0 : World} {pb : Nat → Option Nat} {env : Env} {h : Heap} {a : Act} {w : World} (hr : Rel m nt h0 w0 pb env h a w)
    {f : ResultVar → Sem Value} (hf1 : ∀ t, f (.tmp t) = pure (a.tmps.getD t undef)) (hf2 : ∀ x t, f (.cell x t) = (do loadVar t (← asAddr (a.tmps.getD x undef)))) :
    ∀ (rs : List ResultVar) (es : List Ex) (vs : List Value), resEx P m rs = some es → evVals N env h es = some vs →
      (rs.mapM f).run P w = .ok vs w := by
  intro rs
  induction rs with
  | nil => intro es vs h1 h2; simp only [resEx] at h1; cases h1; simp only [evVals] at h2; cases h2; rfl
  | cons r rs ih =>
    intro es vs h1 h2
    cases r with
    | tmp t =>
      simp only [resEx] at h1
      split at h1 <;> cases h1
      rename_i i l hi hl
      simp only [evVals] at h2
      split at h2 <;> cases h2
      rename_i v vs' hv hvs
      obtain ⟨j, rfl, hj⟩ := idxOf_spec m 0 _ _ hi
      simp only [ev, Option.map_eq_some_iff, Nat.zero_add] at hv
      obtain ⟨v', h3, h4⟩ := hv
      cases h4
      simp only [List.mapM_cons, Sem.run_bind, hf1, Sem.run_pure, Result.andThen_ok, hr.plain j t hj _ h3, ih l vs' hl hvs]
    | cell x t =>
      simp only [resEx] at h1
      split at h1
      · cases h1
        rename_i i l hi ha hsz hl
        simp only [evVals] at h2
        split at h2 <;> cases h2
        rename_i v vs' hv hvs
        obtain ⟨j, rfl, hj⟩ := idxOf_spec m 0 _ _ hi
        obtain ⟨u, h3, h4⟩ := ev_o1 hv
        simp only [ev, Option.map_eq_some_iff, Nat.zero_add] at h3
        obtain ⟨v', h5, rfl⟩ := h3
        obtain ⟨b, h6, h7⟩ := hr.prom j x hj _ h5
        obtain ⟨c, y, h8, h9, h10⟩ := o1_priv_ld h4
        cases h10
        obtain ⟨c', t', h11, h12, h13⟩ := hr.priv j b h6
        rw [h8] at h11; cases h11
        have hc : w.cell? ⟨b, 0, none⟩ = some v := by simp [World.cell?, h12, h9]
        have hh : (asAddr (a.tmps.getD x undef)).run P w = .ok ⟨b, 0, none⟩ w := by rw [h7]; rfl
        simp only [List.mapM_cons, hf2, Sem.run_bind, hh, Sem.run_pure, Result.andThen_ok, load_one ha hc, ih l vs' hl hvs]
      · cases h1
        rename_i i n l hi ha hsz hl
        simp only [evVals] at h2
        split at h2 <;> cases h2
        rename_i v vs' hv hvs
        obtain ⟨j, rfl, hj⟩ := idxOf_spec m 0 _ _ hi
        obtain ⟨u, h3, h4⟩ := ev_o1 hv
        simp only [ev, Option.map_eq_some_iff, Nat.zero_add] at h3
        obtain ⟨v', h5, rfl⟩ := h3
        obtain ⟨b, h6, h7⟩ := hr.prom j x hj _ h5
        obtain ⟨c, h8, h9, h10⟩ := o1_priv_ldn h4
        cases h10
        obtain ⟨c', t', h11, h12, h13⟩ := hr.priv j b h6
        rw [h8] at h11; cases h11
        have hc := load_many (P := P) (w := w) ha hsz (run_row (P := P) h12 0 n h9)
        have hh : (asAddr (a.tmps.getD x undef)).run P w = .ok ⟨b, 0, none⟩ w := by rw [h7]; rfl
        simp only [List.mapM_cons, hf2, Sem.run_bind, hh, Sem.run_pure, Result.andThen_ok, hc, ih l vs' hl hvs]
      · cases h1
theorem fun_sound {f : FuncId} {fn : Func} {c : Code} (hf : P.funcs[f]? = some fn) (hname : (fn.name == "runtime.NumGoroutine") = false) (hb : fn.body = some c) {m : Lmap} {F : SFun} (hc : Sound P N Γ m fn.ntmps F.body c)
    (hres : resEx P m fn.results.toList = some F.res) (hnv : F.nv = m.length) (hm0 : ∀ i, i < F.np → m[i]? = some (i, false)) (hnp : F.np ≤ fn.ntmps) (hle : F.np ≤ F.nv) {args : List Value} {h : Heap} {K : Value → Heap → Prop} (hK : SF N Γ F args h K) :
    FC P f args h K := by
  obtain ⟨hlen, hK⟩ := hK
  refine .inl ⟨⟨fn, hf, hname, by rw [hb]; rfl⟩, fun w hs => ?_⟩
  refine calls_of_wp hf hb ?_
  have hrel : Rel m fn.ntmps h w (fun _ => none) (env0 F.nv args) h { tmps := args.toArray ++ Array.replicate (fn.ntmps - args.toArray.size) undef, defers := [] } w := by
    refine ⟨?_, ?_, ?_, (by intro i b hb; cases hb), (by intro i b hb; cases hb), (by intro i j b hb; cases hb), WStep.refl hs, ?_, rfl⟩
    · simp [env0, hlen]; omega
    · intro i slot hm v hv
      by_cases hi : i < args.length
      · have := hm0 i (by omega)
        rw [this] at hm; cases hm
        simp only [Env.get, env0, List.getElem?_append_left (show i < (args.map some).length by simpa using hi), List.getElem?_map] at hv
        have hg : args[i]? = some v := by
          cases hh : args[i]? with
          | none => rw [hh] at hv; simp at hv
          | some x => rw [hh] at hv; simp at hv; rw [hv]
        rw [Array.getD_eq_getD_getElem?, Array.getElem?_append_left (by simpa using hi)]
        simp [hg]
      · simp only [Env.get, env0, List.getElem?_append_right (show (args.map some).length ≤ i by simpa using hi), List.getElem?_replicate] at hv
        split at hv <;> simp at hv
    · intro i slot hm v hv
      by_cases hi : i < args.length
      · have := hm0 i (by omega)
        rw [this] at hm; cases hm
      · simp only [Env.get, env0, List.getElem?_append_right (show (args.map some).length ≤ i by simpa using hi), List.getElem?_replicate] at hv
        split at hv <;> simp at hv
    · simp; omega
  refine hc h w _ _ _ _ _ _ _ hK hrel ?_
  intro e pb env h' a w' hq hr
  have fin : (∃ vs, evVals N env h' F.res = some vs ∧ K (tup vs) h') → ∃ v, (results fn a.tmps).run P w' = .ok v w' ∧ ∃ v_1 h', Ending.returned v = .returned v_1 ∧ K v_1 h' ∧ WStep h h' w w' := by
    rintro ⟨vs, h1, h2⟩
    refine ⟨tup vs, ?_, tup vs, h', rfl, h2, hr.step⟩
    unfold results
    rw [Array.mapM_eq_mapM_toList]
    simp only [Sem.run_bind, Sem.run_map]
    rw [res_sound (N := N) (P := P) hr (fun _ => rfl) (fun _ _ => rfl) fn.results.toList F.res vs hres h1]
    simp only [Result.andThen_ok, Sem.run_pure]
    match vs with
    | [] => rfl
    | [v] => rfl
    | v :: u :: r => simp [tup]
  cases e with
  | normal => exact ⟨hr.df, fin hq⟩
  | exit id => exact hq.elim
  | ret => exact ⟨hr.df, fin hq⟩
end Go.Cw
namespace Go.Cw
open Go
variable {P : Program} {w : World} {h : Heap} {env : Env} {N : Num} {tk fk : Nat → Option Nat} {pb : Nat → Option Nat} {Γ : Ctx}
def wrOf (ops : Array Oper) (t : Nat) : Option Nat := (List.range ops.size).find? fun j => (ops.getD j default).dst == some t
def tv (ops : Array Oper) (val : Nat → Value) (S : Nat → Bool) (a0 : Nat → Value) (t : Nat) : Value :=
  match wrOf ops t with
  | some i => if S i then val i else a0 t
  | none => a0 t
def inL (l : List Nat) (i : Nat) : Bool := l.contains i
def Fact (P : Program) (tk : Nat → Option Nat) (ops : Array Oper) (nt : Nat) (a0 : Nat → Value) (o : Oper) (val : Nat → Value) (pre : List Nat) (v : Value) (C : World → Prop) : Prop :=
  ∀ (a : Act) (w : World), a.tmps.size = nt → (∀ t ∈ o.looksAt ops, a.tmps.getD t undef = tv ops val (inL pre) a0 t) → (heapyOp P tk o.op = true → C w) →
    (Region.wanted o (yielded ops a.tmps) = true ∧ (execOp a.eval o).run P w = .ok (.value v) w) ∨ (Region.wanted o (yielded ops a.tmps) = false ∧ v = undef)
theorem urel_inj {u : UV} {x y : Value} (hx : urel pb u x) (hy : urel pb u y) : x = y := by
  cases u with
  | v z => rw [urel_v] at hx hy; rw [hx, hy]
  | p i off =>
    obtain ⟨b, h1, h2⟩ := hx
    obtain ⟨b', h3, h4⟩ := hy
    rw [h1] at h3; cases h3
    rw [h2, h4]
theorem eval_agree {ops : Array Oper} {o : Oper} {a a' : Act} (hs : ∀ t ∈ o.looksAt ops, a.tmps.getD t undef = a'.tmps.getD t undef) : ∀ x ∈ o.op.operands, a.eval x = a'.eval x := by
  intro x hx
  cases x with
  | tmp t => exact hs t (by simp only [Oper.looksAt, List.mem_append, List.mem_filterMap]; exact .inl ⟨.tmp t, by simpa using hx, rfl⟩)
  | _ => rfl
theorem wanted_agree {ops : Array Oper} {o : Oper} {a a' : Act} (hn : a.tmps.size = a'.tmps.size) (hs : ∀ t ∈ o.looksAt ops, a.tmps.getD t undef = a'.tmps.getD t undef) :
    Region.wanted o (yielded ops a.tmps) = Region.wanted o (yielded ops a'.tmps) := by
  unfold Region.wanted
  split
  · rfl
  · rename_i g w hg
    have : yielded ops a.tmps g = yielded ops a'.tmps g := by
      unfold yielded
      cases hd : (ops[g]?).bind (·.dst) with
      | none => rfl
      | some d =>
        have h1 := hs d (by simp only [Oper.looksAt, hg, hd, List.mem_append]; exact .inr (by simp))
        have h2 : a.tmps[d]? = a'.tmps[d]? := by
          by_cases hlt : d < a.tmps.size
          · have hlt' : d < a'.tmps.size := hn ▸ hlt
            simp only [Array.getD, hlt, hlt', dite_true] at h1
            rw [Array.getElem?_eq_getElem hlt, Array.getElem?_eq_getElem hlt']
            exact congrArg some h1
          · rw [Array.getElem?_eq_none (Nat.le_of_not_lt hlt), Array.getElem?_eq_none (by rw [← hn]; exact Nat.le_of_not_lt hlt)]
        simp [h2]
    rw [this]
theorem mkOp_select {s : Sg} {path : Pth} {op : Op} {r : Ex × List (Nat × Pth)} (hm : mkOp P tk fk s path op = some r) : ∀ cs b, op ≠ .select cs b := by
  intro cs b e
  subst e
  simp [mkOp, mk, res1, res2] at hm
def dstOk (ops : Array Oper) : Bool := (List.range ops.size).all fun j =>
  match (ops.getD j default).dst with
  | some d => wrOf ops d == some j
  | none => true
theorem dstOk_spec {ops : Array Oper} (hd : dstOk ops = true) {j d : Nat} {o : Oper} (ho : ops[j]? = some o) (hod : o.dst = some d) : wrOf ops d = some j := by
  have hlt := (Array.getElem?_eq_some_iff.1 ho).1
  have := List.all_eq_true.1 hd j (by simpa using hlt)
  have hg : ops.getD j default = o := by rw [Array.getD_eq_getD_getElem?, ho]; rfl
  rw [hg, hod] at this
  simpa using this
theorem tv_put {ops : Array Oper} {val : Nat → Value} {pre : List Nat} {a0 : Nat → Value} {j d : Nat} {y : Value} (hw : wrOf ops d = some j) (hnj : j ∉ pre) {t : Nat} :
    tv ops (fun i => if i = j then y else val i) (inL (pre ++ [j])) a0 t = if t = d then y else tv ops val (inL pre) a0 t := by
  by_cases e : t = d
  · subst e
    simp [tv, hw, inL]
  · simp only [e, if_false]
    unfold tv
    cases hwt : wrOf ops t with
    | none => rfl
    | some i =>
      simp only
      have hne : i ≠ j := by
        intro e'; subst e'
        have h1 : (ops.getD i default).dst == some t := by have := List.find?_some hwt; simpa using this
        have h2 : (ops.getD i default).dst == some d := by have := List.find?_some hw; simpa using this
        have h1' : (ops.getD i default).dst = some t := by simpa using h1
        have h2' : (ops.getD i default).dst = some d := by simpa using h2
        rw [h1'] at h2'; cases h2'; exact e rfl
      simp [inL, hne]
theorem tv_congr {ops : Array Oper} {val val' : Nat → Value} {pre : List Nat} {a0 : Nat → Value} (hv : ∀ i ∈ pre, val' i = val i) (t : Nat) : tv ops val' (inL pre) a0 t = tv ops val (inL pre) a0 t := by
  unfold tv
  cases wrOf ops t with
  | none => rfl
  | some i =>
    simp only
    by_cases hi : i ∈ pre
    · simp [inL, hi, hv i hi]
    · simp [inL, hi]
theorem Fact.congr {ops : Array Oper} {nt : Nat} {a0 : Nat → Value} {o : Oper} {val val' : Nat → Value} {pre : List Nat} {v : Value} {C : World → Prop} (hf : Fact P tk ops nt a0 o val pre v C) (hv : ∀ i ∈ pre, val' i = val i) :
    Fact P tk ops nt a0 o val' pre v C := by
  intro a w hn ht hc
  exact hf a w hn (fun t htt => by rw [ht t htt, tv_congr hv]) hc
theorem cells_hmono {x h : Heap} (hl : Heap.le x h) {b : Nat} {c : Array Value} (hc : x.cells b = some c) : h.cells b = some c := by
  unfold Heap.cells at hc ⊢
  split at hc
  · rename_i c' t fz hb; rw [hl b _ hb]; exact hc
  · cases hc
theorem cell_hmono {x h : Heap} (hl : Heap.le x h) {a : Addr} {v : Value} (hc : x.cell a = some v) : h.cell a = some v := by
  unfold Heap.cell at hc ⊢
  split
  · rename_i hs; rw [if_pos hs] at hc; exact hc
  · rename_i hs; rw [if_neg hs] at hc
    obtain ⟨c, h1, h2⟩ := Option.bind_eq_some_iff.1 hc
    rw [cells_hmono hl h1]; exact h2
theorem row_hmono {x h : Heap} (hl : Heap.le x h) {a : Addr} {n : Nat} {r : Array Value} (hc : x.row a n = some r) : h.row a n = some r := by
  unfold Heap.row at hc ⊢
  split
  · rename_i hs; rw [if_pos hs] at hc; exact hc
  · rename_i hs
    rw [if_neg hs] at hc
    split
    · rename_i h2; rw [if_pos h2] at hc; exact hc
    · rename_i h2; rw [if_neg h2] at hc
      obtain ⟨c, h1, h3⟩ := Option.bind_eq_some_iff.1 hc
      rw [cells_hmono hl h1]; exact h3
theorem entries_hmono {x h : Heap} (hl : Heap.le x h) {v : Value} {es : List MapEntry} (hc : entriesOf x v = some es) : entriesOf h v = some es := by
  unfold entriesOf at hc ⊢
  split
  · exact hc
  · simp only at hc
    split at hc
    · rename_i e1; rw [hl _ _ e1]; exact hc
    · cases hc
  · rename_i h1 h2
    split at hc
    · exact absurd rfl h1
    · rename_i r; exact absurd rfl (h2 r)
    · cases hc
theorem o1V_hmono {x h : Heap} (hl : Heap.le x h) {o : O1} {u r : UV} (hr : o1V N env x o u = some r) : o1V N env h o u = some r := by
  cases u with
  | p i off => simpa only [o1V] using hr
  | v y =>
    unfold o1V at hr ⊢
    simp only at hr ⊢
    split at hr <;> first | exact hr | skip
    all_goals first
      | (obtain ⟨c, h1, h2⟩ := Option.map_eq_some_iff.1 hr; simp only [entries_hmono hl h1, cell_hmono hl h1, row_hmono hl h1, Option.map_some, h2]; done)
      | (obtain ⟨c, h1, h2⟩ := Option.map_eq_some_iff.1 hr; rw [entries_hmono hl h1]; simp [h2]; done)
      | (obtain ⟨c, h1, h2⟩ := Option.map_eq_some_iff.1 hr; rw [cell_hmono hl h1]; simp [h2]; done)
      | (obtain ⟨c, h1, h2⟩ := Option.map_eq_some_iff.1 hr; rw [row_hmono hl h1]; simp [h2]; done)
      | (obtain ⟨c, h1, h2⟩ := Option.bind_eq_some_iff.1 hr; rw [row_hmono hl h1]; exact h2)
theorem o2V_hmono {x h : Heap} (hl : Heap.le x h) {o : O2} {a b r : UV} (hr : o2V x o a b = some r) : o2V h o a b = some r := by
  cases a with
  | p i off =>
    cases b with
    | p j off' => simp [o2V] at hr
    | v z => cases z <;> first | (simp only [o2V] at hr ⊢; exact hr) | (simp [o2V] at hr; done)
  | v y =>
    cases b with
    | p i off => simp [o2V] at hr
    | v z =>
      unfold o2V at hr ⊢
      simp only at hr ⊢
      split at hr <;> first | exact hr | skip
      all_goals (obtain ⟨c, h1, h2⟩ := Option.bind_eq_some_iff.1 hr; rw [entries_hmono hl h1]; exact h2)
theorem ev_hmono {x h : Heap} (hl : Heap.le x h) : ∀ (e : Ex) {u : UV}, ev N env x e = some u → ev N env h e = some u := by
  intro e
  induction e with
  | var i => intro u hu; exact hu
  | pad i => intro u hu; exact hu
  | cnt i => intro u hu; exact hu
  | con y => intro u hu; exact hu
  | mkf f => intro u hu; exact hu
  | o1 o a ih =>
    intro u hu; simp only [ev, Option.bind_eq_some_iff] at hu ⊢
    obtain ⟨v, h1, h2⟩ := hu; exact ⟨v, ih h1, o1V_hmono hl h2⟩
  | o2 o a b iha ihb =>
    intro u hu; simp only [ev, Option.bind_eq_some_iff] at hu ⊢
    obtain ⟨v, h1, w, h2, h3⟩ := hu; exact ⟨v, iha h1, w, ihb h2, o2V_hmono hl h3⟩
  | o3 o a b c iha ihb ihc =>
    intro u hu; simp only [ev, Option.bind_eq_some_iff] at hu ⊢
    obtain ⟨v, h1, w, h2, z, h3, h4⟩ := hu; exact ⟨v, iha h1, w, ihb h2, z, ihc h3, h4⟩
  | pick c a b ihc iha ihb =>
    intro u hu; simp only [ev] at hu ⊢
    split at hu
    · rename_i hc; rw [ihc hc]; exact iha hu
    · rename_i hc; rw [ihc hc]; exact ihb hu
    · cases hu
  | upd base i n a v ihb iha ihv =>
    intro u hu; simp only [ev] at hu ⊢
    split at hu
    · rename_i h1 h2 h3; rw [ihb h1, iha h2, ihv h3]; exact hu
    · cases hu
theorem evP_hmono {x h : Heap} (hl : Heap.le x h) {g : Nat → Option Ex} : ∀ (p : Pth) {b : Bool}, evP N env x g p = some b → evP N env h g p = some b := by
  intro p
  induction p with
  | nil => intro b hb; exact hb
  | cons y r ih =>
    obtain ⟨k, w⟩ := y
    intro b hb
    simp only [evP] at hb ⊢
    cases hg : g k with
    | none => rw [hg] at hb; simp at hb
    | some e =>
      rw [hg] at hb
      simp only [Option.bind_some] at hb ⊢
      cases hv : ev N env x e with
      | none => rw [hv] at hb; simp at hb
      | some u =>
        rw [hv] at hb
        rw [ev_hmono hl e hv]
        cases u with
        | p i off => exact hb
        | v z =>
          cases z <;> first | exact hb | skip
          simp only at hb ⊢
          split
          · rename_i hw; rw [if_pos hw] at hb; exact ih hb
          · rename_i hw; rw [if_neg hw] at hb; exact hb
theorem SInv.hanti {x : Heap} (hl : Heap.le x h) {g : Nat → Option Ex} {s : Sg} {a : Act} (hi : SInv N env h g pb s a) : SInv N env x g pb s a := by
  intro t en he
  obtain ⟨h1, h2, h3⟩ := hi t en he
  exact ⟨h1, fun hp u hu => h2 (evP_hmono hl _ hp) u (ev_hmono hl _ hu), fun hp => h3 (evP_hmono hl _ hp)⟩
theorem pureL_facts (htk : ∀ t k, tk t = some k → N.tid k = t) (hfk : ∀ f k, fk f = some k → N.fid k = f) {g : Nat → Option Ex} {ops : Array Oper} {nt : Nat} {a0 : Nat → Value} (hdst : dstOk ops = true)
    (hs : h.sub w) (hpr : Priv pb env h w) : ∀ (L : List Nat) (s s' : Sg) (rs : List Rec) (a : Act) (val : Nat → Value) (pre : List Nat), pureL P tk fk ops nt L s = some (rs, s') → SInv N env h g pb s a → a.tmps.size = nt →
      (∀ r ∈ rs, g r.idx = some r.ex) → (∀ r ∈ rs, evP N env h g r.path ≠ none ∧ (evP N env h g r.path = some true → r.move = true ∨ ∃ u, ev N env h r.ex = some u)) →
      (∀ t, a.tmps.getD t undef = tv ops val (inL pre) a0 t) → (pre ++ L).Nodup →
      ∃ (val' : Nat → Value) (a' : Act), (∀ i, i ∉ L → val' i = val i) ∧ SInv N env h g pb s' a' ∧ a'.tmps.size = nt ∧ a'.defers = a.defers ∧ (∀ t, a'.tmps.getD t undef = tv ops val' (inL (pre ++ L)) a0 t) ∧
        ∀ L1 j L2, L = L1 ++ j :: L2 → ∃ o r, ops[j]? = some o ∧ r ∈ rs ∧ r.idx = j ∧ Fact P tk ops nt a0 o val' (pre ++ L1) (val' j) (fun w => h.sub w ∧ Priv pb env h w) ∧
          ∀ x, Heap.le x h → (evP N env x g r.path ≠ none ∧ (evP N env x g r.path = some true → r.move = true ∨ ∃ u, ev N env x r.ex = some u)) → Fact P tk ops nt a0 o val' (pre ++ L1) (val' j) (fun w => x.sub w ∧ Priv pb env x w) := by
  intro L
  induction L with
  | nil =>
    intro s s' rs a val pre hp hi hn _ _ ht _
    simp only [pureL] at hp; cases hp
    exact ⟨val, a, fun _ _ => rfl, hi, hn, rfl, by simpa using ht, fun L1 j L2 e => by simp at e⟩
  | cons j L ih =>
    intro s s' rs a val pre hp hi hn hg hc ht hnd
    simp only [pureL] at hp
    split at hp <;> try (cases hp; done)
    rename_i o ho
    split at hp <;> try (cases hp; done)
    rename_i d path hd hpath
    split at hp <;> try (cases hp; done)
    rename_i e us hm
    split at hp <;> try (cases hp; done)
    rename_i hdn
    split at hp <;> cases hp
    rename_i rs' hp
    have hrec := hc _ (List.mem_cons_self ..)
    have hgj : g j = some e := hg _ (List.mem_cons_self ..)
    simp only at hrec
    have hd' : d < a.tmps.size := by rw [hn]; exact hdn
    have hwr := dstOk_spec hdst ho hd
    have hnj : j ∉ pre := by
      intro hj
      have := List.nodup_append.1 hnd
      exact this.2.2 j hj j (by simp) rfl
    have hnjL : j ∉ L := by
      have := (List.nodup_append.1 hnd).2.1
      exact (List.nodup_cons.1 this).1
    have key : ∃ y, (evP N env h g path = some true → ∀ u, ev N env h e = some u → urel pb u y) ∧ (evP N env h g path = some false → y = undef) ∧
        Fact P tk ops nt a0 o val pre y (fun w => h.sub w ∧ Priv pb env h w) ∧
        ∀ x, Heap.le x h → (evP N env x g path ≠ none ∧ (evP N env x g path = some true → isMove o.op = true ∨ ∃ u, ev N env x e = some u)) → Fact P tk ops nt a0 o val pre y (fun w => x.sub w ∧ Priv pb env x w) := by
      have movef : ∀ y, (evP N env h g path = some true) → isMove o.op = true → (execOp a.eval o).run P w = .ok (.value y) w → ∀ C, Fact P tk ops nt a0 o val pre y C := by
        intro y hev hmv hrun C a' w' hn' ht' _
        have hwant := wanted_true hi hpath hev
        obtain ⟨x, hx⟩ : ∃ x, o.op = .move x ∨ o.op = .assign x := by
          cases ho' : o.op <;> rw [ho'] at hmv <;> simp [isMove] at hmv
          · exact ⟨_, .inl rfl⟩
          · exact ⟨_, .inr rfl⟩
        have hmem : x ∈ o.op.operands := by rcases hx with hx | hx <;> rw [hx] <;> simp [Op.operands]
        have hag : ∀ t ∈ o.looksAt ops, a'.tmps.getD t undef = a.tmps.getD t undef := fun t htt => by rw [ht' t htt, ht t]
        have hy : y = a.eval x := by
          have h1 : (execOp a.eval o).run P w = .ok (.value (a.eval x)) w := by rcases hx with hx | hx <;> rw [execOp_of hx] <;> rfl
          rw [h1] at hrun; cases hrun; rfl
        refine .inl ⟨by rw [wanted_agree (hn'.trans hn.symm) hag]; exact hwant, ?_⟩
        rw [hy, ← eval_agree hag x hmem]
        rcases hx with hx | hx <;> rw [execOp_of hx] <;> rfl
      cases hev : evP N env h g path with
      | none => exact absurd hev hrec.1
      | some b =>
        cases b with
        | true =>
          have hwant := wanted_true hi hpath hev
          cases hu : ev N env h e with
          | none =>
            rcases hrec.2 hev with hmv | ⟨u, hu'⟩
            · obtain ⟨x, hx⟩ : ∃ x, o.op = .move x ∨ o.op = .assign x := by
                cases ho' : o.op <;> rw [ho'] at hmv <;> simp [isMove] at hmv
                · exact ⟨_, .inl rfl⟩
                · exact ⟨_, .inr rfl⟩
              have hmem : x ∈ o.op.operands := by rcases hx with hx | hx <;> rw [hx] <;> simp [Op.operands]
              have hrun0 : (execOp a.eval o).run P w = .ok (.value (a.eval x)) w := by rcases hx with hx | hx <;> rw [execOp_of hx] <;> rfl
              refine ⟨a.eval x, (fun _ u hu' => by cases hu'), (fun h => by cases h), ?_, fun _ _ _ => movef _ hev hmv hrun0 _⟩
              intro a' w' hn' ht' _
              have hag : ∀ t ∈ o.looksAt ops, a'.tmps.getD t undef = a.tmps.getD t undef := fun t htt => by rw [ht' t htt, ht t]
              refine .inl ⟨by rw [wanted_agree (hn'.trans hn.symm) hag]; exact hwant, ?_⟩
              rw [← eval_agree hag x hmem]
              rcases hx with hx | hx <;> rw [execOp_of hx] <;> rfl
            · rw [hu] at hu'; cases hu'
          | some u =>
            obtain ⟨⟨y, hrun, hy⟩, _⟩ := mkOp_sound htk hfk hi hev hm hu (fun _ => hs) (fun _ => hpr)
            refine ⟨y, (fun _ u' hu' => by cases hu'; exact hy), (fun h => by cases h), ?_, ?_⟩
            rotate_left
            · intro x hx ⟨c1, c2⟩
              have hevx : evP N env x g path = some true := by
                cases hb : evP N env x g path with
                | none => exact absurd hb c1
                | some b => rw [evP_hmono hx _ hb] at hev; cases hev; rfl
              rcases c2 hevx with hmv | ⟨ux, hux⟩
              · exact movef y hev hmv hrun _
              · have e1 : ux = u := by have := ev_hmono hx e hux; rw [hu] at this; cases this; rfl
                subst e1
                intro a' w' hn' ht' hc'
                have hag : ∀ t ∈ o.looksAt ops, a'.tmps.getD t undef = a.tmps.getD t undef := fun t htt => by rw [ht' t htt, ht t]
                refine .inl ⟨by rw [wanted_agree (hn'.trans hn.symm) hag]; exact hwant, ?_⟩
                obtain ⟨⟨y', hrun', hy'⟩, _⟩ := mkOp_sound (w := w') htk hfk (SInv.hanti hx hi) hevx hm hux (fun hh => (hc' hh).1) (fun hh => (hc' hh).2)
                rw [execOp_congr o (mkOp_select hm) (eval_agree hag), hrun', urel_inj hy' hy]
            intro a' w' hn' ht' hc'
            have hag : ∀ t ∈ o.looksAt ops, a'.tmps.getD t undef = a.tmps.getD t undef := fun t htt => by rw [ht' t htt, ht t]
            refine .inl ⟨by rw [wanted_agree (hn'.trans hn.symm) hag]; exact hwant, ?_⟩
            obtain ⟨⟨y', hrun', hy'⟩, _⟩ := mkOp_sound (w := w') htk hfk hi hev hm hu (fun hh => (hc' hh).1) (fun hh => (hc' hh).2)
            rw [execOp_congr o (mkOp_select hm) (eval_agree hag), hrun', urel_inj hy' hy]
        | false =>
          have hwant := wanted_false hi hpath hev
          have hff : ∀ C, Fact P tk ops nt a0 o val pre undef C := by
            intro C a' w' hn' ht' _
            have hag : ∀ t ∈ o.looksAt ops, a'.tmps.getD t undef = a.tmps.getD t undef := fun t htt => by rw [ht' t htt, ht t]
            exact .inr ⟨by rw [wanted_agree (hn'.trans hn.symm) hag]; exact hwant, rfl⟩
          exact ⟨undef, (fun h => by cases h), (fun _ => rfl), hff _, fun _ _ _ => hff _⟩
    obtain ⟨y, hy1, hy2, hfact, hfactx⟩ := key
    have hsi := hi.put (en := ⟨j, path, e⟩) (v := y) hd' hgj hy1 hy2
    obtain ⟨val', a', h1, h2, h3, h4, h5, h6⟩ := ih _ _ _ (a.put (some d) y) (fun i => if i = j then y else val i) (pre ++ [j]) hp hsi (by simp [Act.put, hn])
      (fun r hr => hg r (List.mem_cons_of_mem _ hr)) (fun r hr => hc r (List.mem_cons_of_mem _ hr)) (fun t => by
        rw [tv_put hwr hnj]
        by_cases e' : t = d
        · subst e'; rw [if_pos rfl]; exact getD_put_same hd'
        · rw [if_neg e', getD_put_other (Ne.symm e'), ht t]) (by simpa using hnd)
    have hvj : val' j = y := by rw [h1 j hnjL]; simp
    have hvpre : ∀ i ∈ pre, val' i = val i := by
      intro i hi'
      have hne : i ≠ j := fun e' => hnj (e' ▸ hi')
      have hniL : i ∉ L := fun hiL => (List.nodup_append.1 hnd).2.2 i hi' i (by simp [hiL]) rfl
      rw [h1 i hniL]; simp [hne]
    refine ⟨val', a', ?_, h2, h3, h4, by simpa using h5, ?_⟩
    · intro i hi'
      simp only [List.mem_cons, not_or] at hi'
      rw [h1 i hi'.2]; simp [hi'.1]
    · intro L1 j' L2 hL
      cases L1 with
      | nil =>
        simp at hL
        obtain ⟨rfl, rfl⟩ := hL
        exact ⟨o, _, ho, List.mem_cons_self .., rfl, by rw [hvj]; simpa using hfact.congr hvpre, fun x hx hc => by rw [hvj]; simpa using (hfactx x hx hc).congr hvpre⟩
      | cons x L1 =>
        simp at hL
        obtain ⟨rfl, rfl⟩ := hL
        obtain ⟨o', r', h7, h8, h9, h10, h11⟩ := h6 L1 j' L2 rfl
        exact ⟨o', r', h7, List.mem_cons_of_mem _ h8, h9, by simpa using h10, fun x hx hc => by simpa using h11 x hx hc⟩
end Go.Cw
namespace Go.Cw
open Go
variable {P : Program} {N : Num} {tk fk : Nat → Option Nat} {Γ : Ctx}
abbrev PT := List (List Nat)
def prs (pt : PT) (i : Nat) : List Nat := pt.getD i []
def boundOn (o : Oper) : List Nat := (o.after.toList.filter (Region.binds .any ·)).map (·.on)
def prOk (ops : Array Oper) (pt : PT) : Bool := (List.range ops.size).all fun i => (prs pt i).all fun k => (boundOn (ops.getD i default)).any fun e => e == k || (prs pt e).contains k
def seesOk (ops : Array Oper) (pt : PT) (pre : List Nat) (i : Nat) : Bool :=
  ((ops.getD i default).looksAt ops).all fun t => match wrOf ops t with
    | none => true
    | some j => if pre.contains j then (prs pt i).contains j else j == i || (prs pt j).contains i
def oneOk (ops : Array Oper) (pt : PT) (pre : List Nat) (i : Nat) : Bool :=
  decide (i < ops.size) && !pre.contains i && seesOk ops pt pre i && (boundOn (ops.getD i default)).all pre.contains
def blockOk (ops : Array Oper) (pt : PT) : List Nat → List Nat → Bool
  | _, [] => true
  | pre, i :: L => oneOk ops pt pre i && isPure (ops.getD i default).op && blockOk ops pt (pre ++ [i]) L
def laterOk (ops : Array Oper) (pt : PT) (pre : List Nat) (x : Nat) : Bool := (List.range ops.size).all fun i => pre.contains i || (prs pt i).contains x
def flagOf (P : Program) (tk : Nat → Option Nat) (ops : Array Oper) (pt : PT) (pre : List Nat) (x : Nat) : Bool :=
  pre.any fun i => isPure (ops.getD i default).op && heapyOp P tk (ops.getD i default).op && !(prs pt x).contains i
def dstLt (ops : Array Oper) (nt : Nat) : Bool := (List.range ops.size).all fun j => match (ops.getD j default).dst with | some d => decide (d < nt) | none => true
def lst (listed : Array Bool) (i : Nat) : Bool := listed.getD i true
theorem lst_set (listed : Array Bool) (i j : Nat) : lst (listed.setIfInBounds i true) j = if j = i then true else lst listed j := by
  unfold lst
  by_cases e : j = i
  · subst e
    simp only [if_true, Array.getD_eq_getD_getElem?, Array.getElem?_setIfInBounds_self]
    split <;> rfl
  · simp only [e, if_false]
    exact getD_set_ne true (Ne.symm e)
theorem getD_ops {ops : Array Oper} {j : Nat} {o : Oper} (ho : ops[j]? = some o) : ops.getD j default = o := by rw [Array.getD_eq_getD_getElem?, ho]; rfl
theorem mem_boundOn {o : Oper} {k : Nat} : k ∈ boundOn o ↔ ∃ e ∈ o.after, Region.binds .any e = true ∧ e.on = k := by
  simp [boundOn, and_assoc]
theorem tv_step {ops : Array Oper} (hd : dstOk ops = true) {nt : Nat} (hl : dstLt ops nt = true) {val : Nat → Value} {S S' : Nat → Bool} {a0 : Nat → Value} {j : Nat} {o : Oper} (ho : ops[j]? = some o) (hj : S' j = true)
    (hne : ∀ i, i ≠ j → S' i = S i) {a : Act} (hn : a.tmps.size = nt) (ht : ∀ t, a.tmps.getD t undef = tv ops val S a0 t) (y : Value) :
    ∀ t, (a.put o.dst y).tmps.getD t undef = tv ops (fun i => if i = j then y else val i) S' a0 t := by
  intro t
  have hlt := (Array.getElem?_eq_some_iff.1 ho).1
  have hno : ∀ i, wrOf ops t = some i → (ops.getD i default).dst = some t := by
    intro i hw
    have := List.find?_some hw
    simpa using this
  have key : ∀ i, wrOf ops t = some i → i ≠ j → tv ops (fun i => if i = j then y else val i) S' a0 t = tv ops val S a0 t := by
    intro i hw hij
    simp only [tv, hw, hij, if_false, hne i hij]
  cases hdo : o.dst with
  | none =>
    show a.tmps.getD t undef = _
    rw [ht t]
    cases hw : wrOf ops t with
    | none => simp [tv, hw]
    | some i =>
      refine (key i hw ?_).symm
      rintro rfl
      have := hno i hw
      rw [getD_ops ho, hdo] at this; cases this
  | some d =>
    have hd' : d < a.tmps.size := by
      have := List.all_eq_true.1 hl j (by simpa using hlt)
      rw [getD_ops ho, hdo] at this
      rw [hn]; simpa using this
    have hwd := dstOk_spec hd ho hdo
    by_cases e : t = d
    · subst e
      rw [getD_put_same hd']
      simp [tv, hwd, hj]
    · rw [getD_put_other (Ne.symm e), ht t]
      cases hw : wrOf ops t with
      | none => simp [tv, hw]
      | some i =>
        refine (key i hw ?_).symm
        rintro rfl
        have h1 := hno i hw
        rw [getD_ops ho, hdo] at h1
        cases h1; exact e rfl
def Pend (P : Program) (tk : Nat → Option Nat) (ops : Array Oper) (nt : Nat) (pt : PT) (a0 : Nat → Value) (pre : List Nat) (val : Nat → Value) (pb : Nat → Option Nat) (env : Env) (h : Heap) (ws : List Heap) (Lc : List Nat) (Cv : Nat → Heap → Prop) (i : Nat) : Prop :=
  ∃ (o : Oper) (pre1 pre2 : List Nat), ops[i]? = some o ∧ pre = pre1 ++ i :: pre2 ∧ seesOk ops pt pre1 i = true ∧ isPure o.op = true ∧
    ((∃ (pb1 : Nat → Option Nat) (env1 : Env) (x : Heap), Fact P tk ops nt a0 o val pre1 (val i) (fun w => x.sub w ∧ Priv pb1 env1 x w) ∧ (heapyOp P tk o.op = true → x ∈ ws ∧ pb1 = pb ∧ ∀ k b, pb k = some b → env1.get k = env.get k)) ∨
     (i ∈ Lc ∧ Fact P tk ops nt a0 o val pre1 (val i) (fun w => h.sub w ∧ Priv pb env h w) ∧ ∀ x, Heap.le x h → Cv i x → Fact P tk ops nt a0 o val pre1 (val i) (fun w => x.sub w ∧ Priv pb env x w)))
structure DCore (P : Program) (tk : Nat → Option Nat) (ops : Array Oper) (nt : Nat) (pt : PT) (a0 : Nat → Value) (pre : List Nat) (listed : Array Bool) (a : Act) (w : World) (ah : Act) (val : Nat → Value)
    (pb : Nat → Option Nat) (env : Env) (h : Heap) (ws : List Heap) (Lc : List Nat) (Cv : Nat → Heap → Prop) : Prop where
  len : listed.size = ops.size
  closed : ∀ i, i < ops.size → lst listed i = true → ∀ k ∈ prs pt i, lst listed k = true
  sub : ∀ i, i < ops.size → lst listed i = true → i ∈ pre
  ord : ∀ pre1 i pre2, pre = pre1 ++ i :: pre2 → i < ops.size ∧ ∀ e ∈ boundOn (ops.getD i default), e ∈ pre1
  nd : pre.Nodup
  real : ∀ t, a.tmps.getD t undef = tv ops val (lst listed) a0 t
  ant : a.tmps.size = nt
  adf : a.defers = []
  hyp : ∀ t, ah.tmps.getD t undef = tv ops val (inL pre) a0 t
  hnt : ah.tmps.size = nt
  hdf : ah.defers = []
  hsub : h.sub w
  hpriv : Priv pb env h w
  les : ∀ x ∈ ws, Heap.le x h
  pend : ∀ i ∈ pre, lst listed i = false → Pend P tk ops nt pt a0 pre val pb env h ws Lc Cv i
theorem ready_closed {ops : Array Oper} {pt : PT} (hp : prOk ops pt = true) {listed : Array Bool} (hc : ∀ i, i < ops.size → lst listed i = true → ∀ k ∈ prs pt i, lst listed k = true) {i : Nat}
    (hlen : listed.size = ops.size) (hr : i ∈ Region.ready .any ops listed) : ∀ k ∈ prs pt i, lst listed k = true := by
  intro k hk
  obtain ⟨_, o, ho, hall⟩ := mem_ready.1 hr
  have hlt := (Array.getElem?_eq_some_iff.1 ho).1
  have h1 := List.all_eq_true.1 (List.all_eq_true.1 hp i (by simpa using hlt)) k hk
  rw [getD_ops ho] at h1
  obtain ⟨e, he, h2⟩ := List.any_eq_true.1 h1
  obtain ⟨ed, hed, hb, rfl⟩ := mem_boundOn.1 he
  have h3 := hall ed hed hb
  have h4 : ed.on < listed.size := by
    rcases Nat.lt_or_ge ed.on listed.size with h' | h'
    · exact h'
    · simp [Array.getD_eq_getD_getElem?, Array.getElem?_eq_none h'] at h3
  have h5 : lst listed ed.on = true := by
    unfold lst
    simp only [Array.getD_eq_getD_getElem?, Array.getElem?_eq_getElem h4, Option.getD_some] at h3 ⊢
    exact h3
  simp only [Bool.or_eq_true, beq_iff_eq, List.contains_iff_mem] at h2
  rcases h2 with h2 | h2
  · rw [← h2]; exact h5
  · exact hc _ (hlen ▸ h4) h5 k h2
theorem progress {ops : Array Oper} {listed : Array Bool} (hlen : listed.size = ops.size) (hr : Region.ready .any ops listed = []) : ∀ (n : Nat) (pre : List Nat), pre.length = n →
    (∀ pre1 i pre2, pre = pre1 ++ i :: pre2 → i < ops.size ∧ ∀ e ∈ boundOn (ops.getD i default), e ∈ pre1) → ∀ i ∈ pre, lst listed i = true := by
  intro n
  induction n with
  | zero => intro pre hl _ i hi; cases pre <;> simp at hl; simp at hi
  | succ n ih =>
    intro pre hl ho i hi
    obtain ⟨p, j, rfl⟩ : ∃ p j, pre = p ++ [j] := ⟨pre.dropLast, pre.getLast (by intro e; rw [e] at hl; cases hl), (List.dropLast_concat_getLast _).symm⟩
    have hp := ih p (by simpa using hl) (fun p1 k p2 e => ho p1 k (p2 ++ [j]) (by rw [e]; simp))
    simp only [List.mem_append, List.mem_singleton] at hi
    rcases hi with hi | rfl
    · exact hp i hi
    · obtain ⟨hlt, hb⟩ := ho p i [] rfl
      cases hli : lst listed i with
      | true => rfl
      | false =>
        have : i ∈ Region.ready .any ops listed := by
          refine mem_ready.2 ⟨hli, ops[i], Array.getElem?_eq_getElem hlt, fun e he hbd => ?_⟩
          have h1 : e.on ∈ boundOn (ops.getD i default) := by
            rw [getD_ops (Array.getElem?_eq_getElem hlt)]
            exact mem_boundOn.2 ⟨e, he, hbd, rfl⟩
          have h2 := hb _ h1
          have h3 := hp _ h2
          obtain ⟨q1, q2, hq⟩ := List.append_of_mem h2
          have h4 : e.on < listed.size := by rw [hlen]; exact (ho q1 e.on (q2 ++ [i]) (by rw [hq]; simp)).1
          unfold lst at h3
          simp only [Array.getD_eq_getD_getElem?, Array.getElem?_eq_getElem h4, Option.getD_some] at h3 ⊢
          exact h3
        rw [hr] at this; cases this
end Go.Cw
namespace Go.Cw
open Go
variable {P : Program} {N : Num} {tk fk : Nat → Option Nat} {Γ : Ctx}
theorem oneOk_spec {ops : Array Oper} {pt : PT} {pre : List Nat} {i : Nat} (h : oneOk ops pt pre i = true) :
    i < ops.size ∧ i ∉ pre ∧ seesOk ops pt pre i = true ∧ ∀ e ∈ boundOn (ops.getD i default), e ∈ pre := by
  unfold oneOk at h
  simp only [Bool.and_eq_true, decide_eq_true_eq, Bool.not_eq_true', List.all_eq_true, List.contains_iff_mem] at h
  obtain ⟨⟨⟨h1, h2⟩, h3⟩, h4⟩ := h
  exact ⟨h1, (fun hc => by rw [List.contains_iff_mem.2 hc] at h2; cases h2), h3, h4⟩
theorem blockOk_spec {ops : Array Oper} {pt : PT} : ∀ (L pre : List Nat), blockOk ops pt pre L = true → ∀ L1 j L2, L = L1 ++ j :: L2 → oneOk ops pt (pre ++ L1) j = true ∧ isPure (ops.getD j default).op = true := by
  intro L
  induction L with
  | nil => intro pre _ L1 j L2 e; cases L1 <;> cases e
  | cons i L ih =>
    intro pre h L1 j L2 e
    simp only [blockOk, Bool.and_eq_true] at h
    cases L1 with
    | nil => simp at e; obtain ⟨rfl, rfl⟩ := e; exact ⟨by simpa using h.1.1, h.1.2⟩
    | cons k L1 =>
      simp at e
      obtain ⟨rfl, rfl⟩ := e
      have := ih (pre ++ [i]) h.2 L1 j L2 rfl
      simpa using this
theorem blockOk_nodup {ops : Array Oper} {pt : PT} : ∀ (L pre : List Nat), pre.Nodup → blockOk ops pt pre L = true → (pre ++ L).Nodup := by
  intro L
  induction L with
  | nil => intro pre hp _; simpa using hp
  | cons i L ih =>
    intro pre hp h
    simp only [blockOk, Bool.and_eq_true] at h
    have h1 := (oneOk_spec h.1.1).2.1
    have := ih (pre ++ [i]) (by
      rw [List.nodup_append]
      refine ⟨hp, by simp, ?_⟩
      intro a ha b hb e
      simp only [List.mem_singleton] at hb
      subst hb; subst e; exact h1 ha) h.2
    simpa using this
theorem split_append {α : Type} {pre L p1 p2 : List α} {i : α} (h : pre ++ L = p1 ++ i :: p2) : (∃ q, pre = p1 ++ i :: q ∧ p2 = q ++ L) ∨ (∃ L1 , L = L1 ++ i :: p2 ∧ p1 = pre ++ L1) := by
  rcases List.append_eq_append_iff.1 h with ⟨q, h1, h2⟩ | ⟨q, h1, h2⟩
  · exact .inr ⟨q, h2, h1⟩
  · cases q with
    | nil => simp at h1 h2; exact .inr ⟨[], by simp [h2], by simp [h1]⟩
    | cons x q => simp at h2; obtain ⟨rfl, rfl⟩ := h2; exact .inl ⟨q, h1, rfl⟩
theorem pureL_uniq {L : List Nat} {s s' : Sg} {ops : Array Oper} {nt : Nat} {rs : List Rec} (h : pureL P tk fk ops nt L s = some (rs, s')) (hn : L.Nodup) : ∀ r' ∈ rs, ∀ r ∈ rs, r'.idx = r.idx → r' = r := by
  have hi := pureL_idx _ _ _ _ h
  rw [← hi] at hn
  clear h hi
  induction rs with
  | nil => intro r' h; simp at h
  | cons x rs ih =>
    simp only [List.map_cons, List.nodup_cons] at hn
    intro r' h' r h e
    simp only [List.mem_cons] at h' h
    rcases h' with rfl | h' <;> rcases h with rfl | h
    · rfl
    · exact absurd (List.mem_map.2 ⟨r, h, e.symm⟩) hn.1
    · exact absurd (List.mem_map.2 ⟨r', h', e⟩) hn.1
    · exact ih hn.2 r' h' r h e
theorem DCore.block {ops : Array Oper} {nt : Nat} {pt : PT} {a0 : Nat → Value} {pre : List Nat} {listed : Array Bool} {a : Act} {w : World} {ah : Act} {val : Nat → Value} {pb : Nat → Option Nat} {env : Env} {h : Heap} {ws : List Heap}
    (hc : DCore P tk ops nt pt a0 pre listed a w ah val pb env h ws [] (fun _ _ => False))
    (htk : ∀ t k, tk t = some k → N.tid k = t) (hfk : ∀ f k, fk f = some k → N.fid k = f) (hdst : dstOk ops = true) {L : List Nat} {s s' : Sg} {rs : List Rec} {g : Nat → Option Ex}
    (hb : blockOk ops pt pre L = true) (hp : pureL P tk fk ops nt L s = some (rs, s')) (hi : SInv N env h g pb s ah) (hg : ∀ r ∈ rs, g r.idx = some r.ex)
    (hcov : ∀ r ∈ rs, evP N env h g r.path ≠ none ∧ (evP N env h g r.path = some true → r.move = true ∨ ∃ u, ev N env h r.ex = some u)) :
    ∃ (val' : Nat → Value) (ah' : Act), DCore P tk ops nt pt a0 (pre ++ L) listed a w ah' val' pb env h ws L (fun i x => ∃ r ∈ rs, r.idx = i ∧ evP N env x g r.path ≠ none ∧ (evP N env x g r.path = some true → r.move = true ∨ ∃ u, ev N env x r.ex = some u)) ∧ (∀ i ∈ L, ∃ r ∈ rs, r.idx = i) ∧ SInv N env h g pb s' ah' := by
  have hnd := blockOk_nodup L pre hc.nd hb
  obtain ⟨val', ah', h1, h2, h3, h4, h5, h6⟩ := pureL_facts htk hfk hdst hc.hsub hc.hpriv L s s' rs ah val pre hp hi hc.hnt hg hcov hc.hyp hnd
  have hruniq : ∀ r' ∈ rs, ∀ r ∈ rs, r'.idx = r.idx → r' = r := pureL_uniq hp (List.nodup_append.1 hnd).2.1
  have hsame : ∀ i ∈ pre, val' i = val i := fun i hip => h1 i (fun hiL => (List.nodup_append.1 hnd).2.2 i hip i hiL rfl)
  refine ⟨val', ah', ?_, fun i hi => ?_, h2⟩
  rotate_left
  · obtain ⟨L1, L2, e⟩ := List.append_of_mem hi
    obtain ⟨o, r, _, h8, h9, _⟩ := h6 L1 i L2 e
    exact ⟨r, h8, h9⟩
  refine ⟨hc.len, hc.closed, fun i hl hi => List.mem_append_left _ (hc.sub i hl hi), ?_, hnd, ?_, hc.ant, hc.adf, h5, h3, h4.trans hc.hdf, hc.hsub, hc.hpriv, hc.les, ?_⟩
  · intro p1 i p2 e
    rcases split_append e with ⟨q, e1, e2⟩ | ⟨L1, e1, e2⟩
    · exact hc.ord p1 i q e1
    · have := oneOk_spec (blockOk_spec L pre hb L1 i p2 e1).1
      rw [e2]; exact ⟨this.1, this.2.2.2⟩
  · intro t
    rw [hc.real t]
    unfold tv
    cases hw : wrOf ops t with
    | none => rfl
    | some i =>
      simp only
      cases hl : lst listed i with
      | false => simp
      | true =>
        have hlt : i < ops.size := by
          have := List.mem_of_find?_eq_some hw; simpa using this
        rw [hsame i (hc.sub i hlt hl)]
  · intro i hip hl
    rw [List.mem_append] at hip
    rcases hip with hip | hip
    · obtain ⟨o, p1, p2, h7, h8, h9, h10, h11⟩ := hc.pend i hip hl
      refine ⟨o, p1, p2 ++ L, h7, by rw [h8]; simp, h9, h10, ?_⟩
      rw [hsame i hip]
      rcases h11 with ⟨pb1, env1, x, h11, h12⟩ | ⟨_, h11⟩
      · exact .inl ⟨pb1, env1, x, h11.congr fun k hk => hsame k (by rw [h8]; exact List.mem_append_left _ hk), h12⟩
      · rename_i hn; simp at hn
    · obtain ⟨L1, L2, e⟩ := List.append_of_mem hip
      obtain ⟨o, r, h7, hr1, hr2, h8, hx8⟩ := h6 L1 i L2 e
      have h9 := blockOk_spec L pre hb L1 i L2 e
      refine ⟨o, pre ++ L1, L2, h7, by rw [e]; simp, (oneOk_spec h9.1).2.2.1, by rw [← getD_ops h7]; exact h9.2, .inr ⟨hip, h8, ?_⟩⟩
      rintro x hx ⟨r', hr', hri, c1, c2⟩
      have : r' = r := hruniq r' hr' r hr1 (hri.trans hr2.symm)
      subst this
      exact hx8 x hx ⟨c1, c2⟩
theorem DCore.sees {ops : Array Oper} {nt : Nat} {pt : PT} {a0 : Nat → Value} {pre : List Nat} {listed : Array Bool} {a : Act} {w : World} {ah : Act} {val : Nat → Value} {pb : Nat → Option Nat} {env : Env} {h : Heap} {ws : List Heap} {Lc : List Nat} {Cv : Nat → Heap → Prop}
    (hc : DCore P tk ops nt pt a0 pre listed a w ah val pb env h ws Lc Cv) (hp : prOk ops pt = true) {i : Nat} (hr : i ∈ Region.ready .any ops listed) {o : Oper} (ho : ops[i]? = some o) {p : List Nat} (hs : seesOk ops pt p i = true) :
    ∀ t ∈ o.looksAt ops, a.tmps.getD t undef = tv ops val (inL p) a0 t := by
  intro t ht
  have h1 := List.all_eq_true.1 hs t (by rw [getD_ops ho]; exact ht)
  rw [hc.real t]
  unfold tv
  cases hw : wrOf ops t with
  | none => rfl
  | some j =>
    rw [hw] at h1
    simp only at h1 ⊢
    have hlj : j < ops.size := by have := List.mem_of_find?_eq_some hw; simpa using this
    have hli := (mem_ready.1 hr).1
    by_cases hj : p.contains j = true
    · rw [if_pos hj] at h1
      have := ready_closed hp hc.closed hc.len hr j (by simpa using h1)
      simp [inL, this, List.contains_iff_mem.1 hj]
    · rw [if_neg hj] at h1
      have hnj : j ∉ p := fun h => hj (List.contains_iff_mem.2 h)
      have : lst listed j = false := by
        cases hl : lst listed j with
        | false => rfl
        | true =>
          simp only [Bool.or_eq_true, beq_iff_eq, List.contains_iff_mem] at h1
          rcases h1 with h1 | h1
          · subst h1; unfold lst at hl; rw [hli] at hl; cases hl
          · have := hc.closed j hlj hl i h1
            unfold lst at this; rw [hli] at this; cases this
      simp [inL, this, hnj]
theorem DCore.pure {ops : Array Oper} {nt : Nat} {pt : PT} {a0 : Nat → Value} {pre : List Nat} {listed : Array Bool} {a : Act} {w : World} {ah : Act} {val : Nat → Value} {pb : Nat → Option Nat} {env : Env} {h : Heap} {ws : List Heap} {Lc : List Nat} {Cv : Nat → Heap → Prop}
    (hc : DCore P tk ops nt pt a0 pre listed a w ah val pb env h ws Lc Cv) (hp : prOk ops pt = true) (hdst : dstOk ops = true) (hlt : dstLt ops nt = true) {i : Nat} (hr : i ∈ Region.ready .any ops listed) (hi : i ∈ pre)
    {Q : Exit → Act → World → Prop} {K : Act → World → Prop} (hK : ∀ a', DCore P tk ops nt pt a0 pre (listed.setIfInBounds i true) a' w ah val pb env h ws Lc Cv → K a' w) : wpOp P ops Q i K a w := by
  have hli : lst listed i = false := (mem_ready.1 hr).1
  obtain ⟨o, p1, p2, h7, h8, h9, h10, h11⟩ := hc.pend i hi hli
  have hs := hc.sees hp hr h7 h9
  have hsz := (Array.getElem?_eq_some_iff.1 h7).1
  have hdone : DCore P tk ops nt pt a0 pre (listed.setIfInBounds i true) (a.put o.dst (val i)) w ah val pb env h ws Lc Cv := by
    refine ⟨by simpa using hc.len, ?_, ?_, hc.ord, hc.nd, ?_, ?_, ?_, hc.hyp, hc.hnt, hc.hdf, hc.hsub, hc.hpriv, hc.les, ?_⟩
    · intro j hj hl k hk
      rw [lst_set] at hl ⊢
      by_cases e : j = i
      · subst e
        rw [ready_closed hp hc.closed hc.len hr k hk]; simp
      · rw [if_neg e] at hl
        rw [hc.closed j hj hl k hk]; simp
    · intro j hj hl
      rw [lst_set] at hl
      by_cases e : j = i
      · subst e; exact hi
      · rw [if_neg e] at hl; exact hc.sub j hj hl
    · have := tv_step hdst hlt (S := lst listed) (S' := lst (listed.setIfInBounds i true)) h7 (by rw [lst_set, if_pos rfl]) (fun k hk => by rw [lst_set, if_neg hk]) hc.ant hc.real (val i)
      intro t
      rw [this t]
      congr 1
      funext k
      by_cases e : k = i
      · subst e; simp
      · simp [e]
    · cases o.dst <;> simp [Act.put, hc.ant]
    · cases o.dst <;> simp [Act.put, hc.adf]
    · intro j hj hl
      rw [lst_set] at hl
      by_cases e : j = i
      · rw [if_pos e] at hl; cases hl
      · rw [if_neg e] at hl; exact hc.pend j hj hl
  have hK' := hK _ hdone
  have hfact : Fact P tk ops nt a0 o val p1 (val i) (fun w' => w' = w) := by
    rcases h11 with ⟨pb1, env1, x, h11, h12⟩ | ⟨_, h11, _⟩
    · intro a' w' hn' ht' hc'
      refine h11 a' w' hn' ht' (fun hh => ?_)
      have := hc' hh
      subst this
      obtain ⟨hx, rfl, hag⟩ := h12 hh
      have hle : Heap.le x h := hc.les x hx
      refine ⟨fun b o hb => hc.hsub b o (hle b o hb), fun k b hk => ?_⟩
      obtain ⟨c, t, h1, h2, h3⟩ := hc.hpriv k b hk
      refine ⟨c, t, (hag k b hk).trans h1, h2, ?_⟩
      cases hxb : x b with
      | none => rfl
      | some ob => rw [hle b ob hxb] at h3; cases h3
    · intro a' w' hn' ht' hc'
      refine h11 a' w' hn' ht' (fun hh => ?_)
      have := hc' hh
      subst this
      exact ⟨hc.hsub, hc.hpriv⟩
  rcases hfact a w hc.ant hs (fun _ => rfl) with ⟨h1, h2⟩ | ⟨h1, h2⟩
  · unfold wpOp
    simp only [h7, h1, if_true, Oper.wp, h2, Oper.upon]
    exact .inl hK'
  · unfold wpOp
    simp only [h7, h1]
    rw [← h2]; exact hK'
theorem wpOp_transfer {ops : Array Oper} {x : Nat} {o : Oper} (ho : ops[x]? = some o) (hns : ∀ cs b, o.op ≠ .select cs b) {a ah : Act} {w : World} (hn : a.tmps.size = ah.tmps.size)
    (hag : ∀ t ∈ o.looksAt ops, a.tmps.getD t undef = ah.tmps.getD t undef) {R : Act → World → Prop} (hR : ∀ a' w', R a' w' → a'.defers = []) {Q : Exit → Act → World → Prop}
    (h : wpOps P ops (fun e a' w' => e = .normal ∧ R a' w') [x] ah w) : wpOp P ops Q x (fun a' w' => ∃ y, a' = a.put o.dst y ∧ R (ah.put o.dst y) w') a w := by
  unfold wpOp
  simp only [wpOps, ho] at h ⊢
  rw [wanted_agree hn hag]
  split
  · rename_i hw
    rw [if_pos hw] at h
    rcases h with h | ⟨_, _, _, h, _⟩
    · refine .inl ?_
      unfold Oper.wp at h ⊢
      rw [execOp_congr o hns (eval_agree hag)]
      generalize (execOp ah.eval o).run P w = r at h ⊢
      cases r with
      | ok n w' =>
        cases n <;> simp only [Oper.upon] at h ⊢
        case value u => exact ⟨u, rfl, h.2⟩
        case skip => exact ⟨_, rfl, h.2⟩
        case defer d =>
          have := hR _ _ h.2
          exfalso; revert this; cases o.dst <;> simp [Act.put]
        case enter f args =>
          refine Calls.mono h fun e w'' he => ?_
          cases e with
          | returned u => exact ⟨u, rfl, he.2⟩
          | panicked c => cases he.1
          | outgrown => obtain ⟨_, _, he, _⟩ := he; cases he
        case row row args => exact Rows.mono h fun u w'' he => ⟨u, rfl, he.2⟩
      | halt e w' =>
        cases e <;> simp only [Oper.upon] at h
        case panic u => cases h.1
    · cases h
  · rename_i hw
    rw [if_neg hw] at h
    exact ⟨_, rfl, h.2⟩
end Go.Cw
namespace Go.Cw
open Go
variable {P : Program} {N : Num} {tk fk : Nat → Option Nat} {Γ : Ctx}
inductive DP where
  | done (L : List Nat)
  | eff (L : List Nat) (x : Nat) (r : DP)
  | alt (L : List Nat) (x : Nat) (r : DP) (y : Nat) (r' : DP)
  deriving Inhabited
def effOk (P : Program) (tk : Nat → Option Nat) (ops : Array Oper) (pt : PT) (pre : List Nat) (x : Nat) (s : Stg) : Bool :=
  oneOk ops pt pre x && (match s.eff with
    | some ei => !ei.prom || !flagOf P tk ops pt pre x
    | none => false)
def collectW (g : Nat → Option Ex) (p : Rec → Bool) : List Rec → Option (List Let)
  | [] => some []
  | r :: rs =>
    if p r then
      match pathEx g r.path, collectW g p rs with
      | some gs, some l => some (⟨gs, 0, r.ex⟩ :: l)
      | _, _ => none
    else collectW g p rs
theorem collectW_spec {g : Nat → Option Ex} {p : Rec → Bool} : ∀ {rs : List Rec} {wx : List Let}, collectW g p rs = some wx → ∀ r ∈ rs, p r = true → ∃ gs, pathEx g r.path = some gs ∧ (⟨gs, 0, r.ex⟩ : Let) ∈ wx := by
  intro rs
  induction rs with
  | nil => intro wx _ r hr; simp at hr
  | cons a rs ih =>
    intro wx h r hr hp
    simp only [collectW] at h
    split at h
    · rename_i hpa
      split at h <;> cases h
      rename_i gs l h1 h2
      simp only [List.mem_cons] at hr
      rcases hr with rfl | hr
      · exact ⟨gs, h1, by simp⟩
      · obtain ⟨gs', h3, h4⟩ := ih h2 r hr hp
        exact ⟨gs', h3, by simp [h4]⟩
    · rename_i hpa
      simp only [List.mem_cons] at hr
      rcases hr with rfl | hr
      · rw [hp] at hpa; exact absurd rfl hpa
      · exact ih h r hr hp
def waitsFor (P : Program) (tk : Nat → Option Nat) (ops : Array Oper) (pt : PT) (x : Nat) (r : Rec) : Bool :=
  isPure (ops.getD r.idx default).op && heapyOp P tk (ops.getD r.idx default).op && !(prs pt x).contains r.idx
def wxOf (P : Program) (tk fk : Nat → Option Nat) (ops : Array Oper) (nt : Nat) (m : Lmap) (pt : PT) (L : List Nat) (x : Nat) : Option (List Let) :=
  match pureL P tk fk ops nt L (sg0 ops.size 0 m) with
  | some (rs, _) => collectW (gOf rs (sg0 ops.size 0 m)) (waitsFor P tk ops pt x) rs
  | none => none
theorem dsK_out {fl : Bool} {wx : List Let} {ws : List Heap} {env : Env} {h : Heap} {K : List Heap → Env → Heap → Prop} {env' : Env} {h' : Heap} (hk : dsK N fl wx ws env h K env' h') :
    ∃ (z : Heap) (ws' : List Heap), K ws' env' h' ∧ (∀ y ∈ ws', Heap.le y h') ∧ (fl = true → ∀ y ∈ ws, y ∈ ws') ∧ (wx ≠ [] → fl = true → z ∈ ws' ∧ (z = h ∨ (Heap.le z h ∧ ∀ l ∈ wx, covX N env z l))) := by
  unfold dsK at hk
  split at hk
  · obtain ⟨h1, h2⟩ := hk
    cases fl with
    | true => exact ⟨h, ws, h2, h1 rfl, fun _ y hy => hy, fun h => absurd rfl h⟩
    | false => exact ⟨h, [], h2, by simp, (by simp), fun h => absurd rfl h⟩
  · obtain ⟨z, h0, h1, h2⟩ := hk
    cases fl with
    | true => exact ⟨z, z :: ws, h2, h1 rfl, fun _ y hy => List.mem_cons_of_mem _ hy, fun _ _ => ⟨by simp, h0⟩⟩
    | false => exact ⟨z, [], h2, by simp, (by simp), fun _ h => by cases h⟩
def dcomp (P : Program) (tk fk : Nat → Option Nat) (ops : Array Oper) (nt : Nat) (m : Lmap) (pt : PT) : List Nat → DP → Option DS
  | pre, .done L =>
    match stage P tk fk ops nt m L none with
    | some s => if blockOk ops pt pre L && (List.range ops.size).all (pre ++ L).contains then some (.done s) else none
    | none => none
  | pre, .eff L x r =>
    match stage P tk fk ops nt m L (some x), dcomp P tk fk ops nt m pt (pre ++ L ++ [x]) r, wxOf P tk fk ops nt m pt L x with
    | some s, some d, some wx => if blockOk ops pt pre L && effOk P tk ops pt (pre ++ L) x s && laterOk ops pt (pre ++ L ++ [x]) x then some (.eff (flagOf P tk ops pt (pre ++ L) x) wx s d) else none
    | _, _, _ => none
  | pre, .alt L x r y r' =>
    match stage P tk fk ops nt m L (some x), dcomp P tk fk ops nt m pt (pre ++ L ++ [x]) r, stage P tk fk ops nt m L (some y), dcomp P tk fk ops nt m pt (pre ++ L ++ [y]) r', wxOf P tk fk ops nt m pt L x, wxOf P tk fk ops nt m pt L y with
    | some s, some d, some s', some d', some wx, some wx' =>
      if blockOk ops pt pre L && effOk P tk ops pt (pre ++ L) x s && effOk P tk ops pt (pre ++ L) y s' && laterOk ops pt (pre ++ L ++ [x, y]) x then
        some (.alt (flagOf P tk ops pt (pre ++ L) x) wx s d (flagOf P tk ops pt (pre ++ L) y) wx' s' d') else none
    | _, _, _, _, _, _ => none
def dregOk (P : Program) (tk fk : Nat → Option Nat) (ops : Array Oper) (nt : Nat) (m : Lmap) (pt : PT) (p : DP) : Option DS :=
  if prOk ops pt && dstOk ops && dstLt ops nt && Region.noSelect ops then dcomp P tk fk ops nt m pt [] p else none
theorem DCore.eff (htk : ∀ t k, tk t = some k → N.tid k = t) (hfk : ∀ f k, fk f = some k → N.fid k = f) (hΓ : Good P N Γ)
    {ops : Array Oper} {nt : Nat} {pt : PT} {a0 : Nat → Value} {pre : List Nat} {listed : Array Bool} {a : Act} {w : World} {ah : Act} {val : Nat → Value} {pb : Nat → Option Nat} {env : Env} {h : Heap} {ws : List Heap} {Lc : List Nat} {Cv : Nat → Heap → Prop}
    (hc : DCore P tk ops nt pt a0 pre listed a w ah val pb env h ws Lc Cv) (hp : prOk ops pt = true) (hdst : dstOk ops = true) (hlt : dstLt ops nt = true) (hns : Region.noSelect ops = true)
    {m : Lmap} (hnd : (m.map (·.1)).Nodup) {h0 : Heap} {w0 : World} {env1 : Env} {s : Sg} {g : Nat → Option Ex} {o : Oper} {ei : EI} {c : List (Nat × Pth)} {st : Stg} {x : Nat} (ho : ops[x]? = some o) (heff : effOf P tk fk ops nt m g s o = some (ei, c))
    (hi : SInv N env h g pb s ah) (hr : Rel m nt h0 w0 pb env1 h ah w) (hkeep : ∀ i slot, m[i]? = some (slot, true) → env1.get i = env.get i) (hst : st.eff = some ei) (hok : effOk P tk ops pt pre x st = true)
    {K : List Heap → Env → Heap → Prop} {wx : List Let} (hwx : ∀ i ∈ Lc, isPure (ops.getD i default).op = true → heapyOp P tk (ops.getD i default).op = true → (prs pt x).contains i = false → wx ≠ [] ∧ ∀ z, Heap.le z h → (∀ l ∈ wx, covX N env z l) → Cv i z)
    (hK : eiW N Γ ei env env1 h (dsK N (flagOf P tk ops pt pre x) wx ws env h K)) {Q : Exit → Act → World → Prop} (hx : x ∈ Region.ready .any ops listed) :
    wpOp P ops Q x (fun a' w' => ∃ val' ah' pb' env' h' ws', DCore P tk ops nt pt a0 (pre ++ [x]) (listed.setIfInBounds x true) a' w' ah' val' pb' env' h' ws' [] (fun _ _ => False) ∧ Rel m nt h0 w0 pb' env' h' ah' w' ∧ K ws' env' h') a w := by
  unfold effOk at hok
  rw [hst] at hok
  simp only [Bool.and_eq_true, Bool.or_eq_true, Bool.not_eq_true'] at hok
  obtain ⟨hone, hprom⟩ := hok
  obtain ⟨hxs, hxp, hxsee, hxb⟩ := oneOk_spec hone
  have hsee := hc.sees hp hx ho hxsee
  have hsel := Region.noSelect_spec hns
  have h1 := eff_step htk hfk hΓ ho heff hnd hi hr hkeep hK (Q := fun e a' w' => e = .normal ∧ ∃ pb' env' h', dsK N (flagOf P tk ops pt pre x) wx ws env h K env' h' ∧ Rel m nt h0 w0 pb' env' h' a' w' ∧
    (ei.prom = false → pb' = pb ∧ ∀ (i slot : Nat), m[i]? = some (slot, true) → env'.get i = env1.get i)) (rest := [])
    (fun pb' env' h' a' w' hk hr' hpr => by simp only [wpOps]; exact ⟨trivial, pb', env', h', hk, hr', hpr⟩)
  have h2 := wpOp_transfer (Q := Q) ho (fun cs b => hsel x o cs b ho) (a := a) (hc.ant.trans hc.hnt.symm) (fun t ht => by rw [hsee t ht, hc.hyp t]) (by rintro a' w' ⟨_, _, _, _, hr', _⟩; exact hr'.df) h1
  refine wpOp_mono ?_ h2
  rintro a' w' ⟨y, rfl, pb', env', h', hk, hr', hpr⟩
  obtain ⟨zh, ws', hk2, hk1, hkw, hkz⟩ := dsK_out hk
  clear hk
  refine ⟨fun i => if i = x then y else val i, ah.put o.dst y, pb', env', h', ws', ?_, hr', hk2⟩
  have hother : ∀ i ∈ pre, i ≠ x := fun i hi e => hxp (e ▸ hi)
  refine ⟨by simpa using hc.len, ?_, ?_, ?_, ?_, ?_, ?_, ?_, ?_, hr'.nt, hr'.df, hr'.step.sub, hr'.priv, ?_, ?_⟩
  · intro j hj hl k hk
    rw [lst_set] at hl ⊢
    by_cases e : j = x
    · subst e
      rw [ready_closed hp hc.closed hc.len hx k hk]; simp
    · rw [if_neg e] at hl
      rw [hc.closed j hj hl k hk]; simp
  · intro j hj hl
    rw [lst_set] at hl
    by_cases e : j = x
    · subst e; simp
    · rw [if_neg e] at hl; exact List.mem_append_left _ (hc.sub j hj hl)
  · intro p1 i p2 e
    rcases split_append e with ⟨q, e1, e2⟩ | ⟨L1, e1, e2⟩
    · exact hc.ord p1 i q e1
    · cases L1 with
      | nil => simp at e1; obtain ⟨rfl, rfl⟩ := e1; rw [e2]; exact ⟨hxs, by simpa using hxb⟩
      | cons z L1 => simp at e1
  · rw [List.nodup_append]
    refine ⟨hc.nd, by simp, ?_⟩
    intro a ha b hb e
    simp only [List.mem_singleton] at hb
    subst hb; exact hother a ha e
  · exact tv_step hdst hlt (S := lst listed) (S' := lst (listed.setIfInBounds x true)) ho (by rw [lst_set, if_pos rfl]) (fun k hk => by rw [lst_set, if_neg hk]) hc.ant hc.real y
  · cases o.dst <;> simp [Act.put, hc.ant]
  · cases o.dst <;> simp [Act.put, hc.adf]
  · exact tv_step hdst hlt (S := inL pre) (S' := inL (pre ++ [x])) ho (by simp [inL]) (fun k hk => by simp [inL, hk]) hc.hnt hc.hyp y
  · exact hk1
  · intro i hip hl
    rw [lst_set] at hl
    by_cases e : i = x
    · rw [if_pos e] at hl; cases hl
    · rw [if_neg e] at hl
      have hip' : i ∈ pre := by simpa [e] using hip
      obtain ⟨o', p1, p2, h7, h8, h9, h10, h11⟩ := hc.pend i hip' hl
      have hcong : ∀ {C : World → Prop}, Fact P tk ops nt a0 o' val p1 (val i) C → Fact P tk ops nt a0 o' (fun i => if i = x then y else val i) p1 (if i = x then y else val i) C := by
        intro C hf
        rw [if_neg e]
        exact hf.congr fun k hk => by rw [if_neg (hother k (by rw [h8]; exact List.mem_append_left _ hk))]
      have hncon : (prs pt x).contains i = false := by
        cases hcx : (prs pt x).contains i with
        | false => rfl
        | true =>
          have := ready_closed hp hc.closed hc.len hx i (List.contains_iff_mem.1 hcx)
          rw [hl] at this; cases this
      have hfl : heapyOp P tk o'.op = true → flagOf P tk ops pt pre x = true := by
        intro hh
        refine List.any_eq_true.2 ⟨i, hip', ?_⟩
        rw [getD_ops h7, h10, hh, hncon]; rfl
      have hag : heapyOp P tk o'.op = true → pb = pb' ∧ ∀ k b, pb' k = some b → env.get k = env'.get k := by
        intro hh
        have hpf : ei.prom = false := by
          rcases hprom with h | h
          · exact h
          · rw [hfl hh] at h; cases h
        obtain ⟨e1, hpr2⟩ := hpr hpf
        refine ⟨e1.symm, fun k b hk => ?_⟩
        obtain ⟨slot, hms, _⟩ := hr'.pbm k b hk
        rw [hpr2 k slot hms, hkeep k slot hms]
      refine ⟨o', p1, p2 ++ [x], h7, by rw [h8]; simp, h9, h10, .inl ?_⟩
      rcases h11 with ⟨pb1, en1, xh, f1, f2⟩ | ⟨hL, f1, f2⟩
      · refine ⟨pb1, en1, xh, hcong f1, fun hh => ?_⟩
        obtain ⟨h13, h14, h15⟩ := f2 hh
        obtain ⟨a1, a2⟩ := hag hh
        exact ⟨hkw (hfl hh) _ h13, h14.trans a1, fun k b hk => by rw [h15 k b (a1 ▸ hk), a2 k b hk]⟩
      · cases hh : heapyOp P tk o'.op with
        | false => exact ⟨pb, env, h, hcong f1, fun h => by cases h⟩
        | true =>
          obtain ⟨w1, w2⟩ := hwx i hL (by rw [getD_ops h7]; exact h10) (by rw [getD_ops h7]; exact hh) hncon
          obtain ⟨z1, z2⟩ := hkz w1 (hfl hh)
          obtain ⟨a1, a2⟩ := hag hh
          refine ⟨pb, env, zh, hcong ?_, fun _ => ⟨z1, a1, a2⟩⟩
          rcases z2 with rfl | ⟨z2, z3⟩
          · exact f1
          · exact f2 zh z2 (w2 zh z2 z3)
theorem countP_one {l : List Nat} (hl : l.Nodup) {p q : Nat → Bool} {i : Nat} (hi : i ∈ l) (h1 : p i = true) (h2 : ∀ j, q j = if j = i then false else p j) : l.countP p = l.countP q + 1 := by
  induction l with
  | nil => cases hi
  | cons x l ih =>
    rw [List.nodup_cons] at hl
    simp only [List.mem_cons] at hi
    by_cases e : x = i
    · subst e
      have : l.countP p = l.countP q := List.countP_congr fun j hj => by
        have : j ≠ x := fun e => hl.1 (e ▸ hj)
        rw [h2 j, if_neg this]
      simp [List.countP_cons, h1, h2 x, this]
    · have hi' : i ∈ l := hi.resolve_left (fun e' => e e'.symm)
      have := ih hl.2 hi'
      simp only [List.countP_cons, this, h2 x, if_neg e]
      omega
def left (n : Nat) (listed : Array Bool) : Nat := (List.range n).countP fun i => !lst listed i
theorem left_set {n : Nat} {listed : Array Bool} {i : Nat} (hi : i < n) (hl : lst listed i = false) : left n listed = left n (listed.setIfInBounds i true) + 1 :=
  countP_one List.nodup_range (by simpa using hi) (by simp [hl]) (fun j => by rw [lst_set]; split <;> simp)
theorem Rel.same {m : Lmap} {nt : Nat} {h0 : Heap} {w0 : World} {pb : Nat → Option Nat} {env : Env} {h : Heap} {a a' : Act} {w : World} (hr : Rel m nt h0 w0 pb env h a w)
    (h1 : ∀ t, a'.tmps.getD t undef = a.tmps.getD t undef) (h2 : a'.tmps.size = nt) (h3 : a'.defers = []) : Rel m nt h0 w0 pb env h a' w :=
  ⟨hr.elen, fun i slot hm v hv => by rw [h1]; exact hr.plain i slot hm v hv, fun i slot hm v hv => by
    obtain ⟨b, hb, hb'⟩ := hr.prom i slot hm v hv
    exact ⟨b, hb, by rw [h1]; exact hb'⟩, hr.priv, hr.pbm, hr.inj, hr.step, h2, h3⟩
section
variable {ops : Array Oper} {nt : Nat} {pt : PT} {a0 : Nat → Value} {pre : List Nat} {w : World} {ah : Act} {val : Nat → Value} {pb : Nat → Option Nat} {env : Env} {h : Heap} {ws : List Heap} {Lc : List Nat} {Cv : Nat → Heap → Prop} {Q : Exit → Act → World → Prop}
theorem done_any (hp : prOk ops pt = true) (hdst : dstOk ops = true) (hlt : dstLt ops nt = true) (hall : ∀ i, i < ops.size → i ∈ pre)
    (hQ : ∀ a, (∀ t, a.tmps.getD t undef = ah.tmps.getD t undef) → a.tmps.size = nt → a.defers = [] → Q .normal a w) :
    ∀ (f : Nat) (listed : Array Bool) (a : Act), DCore P tk ops nt pt a0 pre listed a w ah val pb env h ws Lc Cv → left ops.size listed ≤ f → wpAny P .any ops Q f listed a w := by
  have fin : ∀ (listed : Array Bool) (a : Act), DCore P tk ops nt pt a0 pre listed a w ah val pb env h ws Lc Cv → (∀ i ∈ pre, lst listed i = true) → Q .normal a w := by
    intro listed a hc hl
    refine hQ a (fun t => ?_) hc.ant hc.adf
    rw [hc.real t, hc.hyp t]
    unfold tv
    cases hw : wrOf ops t with
    | none => rfl
    | some i =>
      have hlt' : i < ops.size := by have := List.mem_of_find?_eq_some hw; simpa using this
      have hm := hall i hlt'
      simp [hl i hm, inL, hm]
  intro f
  induction f with
  | zero =>
    intro listed a hc hl
    have hz : ∀ i, i < ops.size → lst listed i = true := by
      intro i hi
      have h0 : (List.range ops.size).countP (fun i => !lst listed i) = 0 := by unfold left at hl; omega
      have := (List.countP_eq_zero.1 h0) i (by simpa using hi)
      simpa using this
    refine ⟨?_, fin listed a hc fun i hi => ?_⟩
    · cases hr : Region.ready .any ops listed with
      | nil => rfl
      | cons x xs =>
        have hx : x ∈ Region.ready .any ops listed := by rw [hr]; simp
        have h1 := mem_ready.1 hx
        obtain ⟨h2, o, ho, _⟩ := h1
        have := hz x (Array.getElem?_eq_some_iff.1 ho).1
        unfold lst at this
        rw [h2] at this; cases this
    · obtain ⟨p1, p2, e⟩ := List.append_of_mem hi
      exact hz i (hc.ord p1 i p2 e).1
  | succ f ih =>
    intro listed a hc hl
    refine ⟨fun hr => fin listed a hc (progress hc.len hr _ pre rfl hc.ord), fun i hi => ?_⟩
    obtain ⟨h1, o, ho, _⟩ := mem_ready.1 hi
    have hsz := (Array.getElem?_eq_some_iff.1 ho).1
    have := left_set hsz (show lst listed i = false from h1)
    exact hc.pure hp hdst hlt hi (hall i hsz) fun a' hc' => ih _ _ hc' (by omega)
theorem step_any (hp : prOk ops pt = true) (hdst : dstOk ops = true) (hlt : dstLt ops nt = true) {xs : List Nat} {x0 : Nat} (hx0 : x0 ∈ xs) (hone : oneOk ops pt pre x0 = true) (hlater : laterOk ops pt (pre ++ xs) x0 = true) {F : Nat}
    (hstep : ∀ f, f < F → ∀ (listed : Array Bool) (a : Act), DCore P tk ops nt pt a0 pre listed a w ah val pb env h ws Lc Cv → ∀ x ∈ xs, x ∈ Region.ready .any ops listed → left ops.size listed ≤ f + 1 →
      wpOp P ops Q x (wpAny P .any ops Q f (listed.setIfInBounds x true)) a w) :
    ∀ (f : Nat), f ≤ F → ∀ (listed : Array Bool) (a : Act), DCore P tk ops nt pt a0 pre listed a w ah val pb env h ws Lc Cv → left ops.size listed ≤ f → wpAny P .any ops Q f listed a w := by
  obtain ⟨hs0, hn0, _, hb0⟩ := oneOk_spec hone
  have hun : ∀ (listed : Array Bool) (a : Act), DCore P tk ops nt pt a0 pre listed a w ah val pb env h ws Lc Cv → lst listed x0 = false := by
    intro listed a hc
    cases hl : lst listed x0 with
    | false => rfl
    | true => exact absurd (hc.sub x0 hs0 hl) hn0
  intro f
  induction f with
  | zero =>
    intro _ listed a hc hl
    have h0 : (List.range ops.size).countP (fun i => !lst listed i) = 0 := by unfold left at hl; omega
    have := (List.countP_eq_zero.1 h0) x0 (by simpa using hs0)
    rw [hun listed a hc] at this
    exact absurd rfl this
  | succ f ih =>
    intro hF listed a hc hl
    refine ⟨fun hr => ?_, fun i hi => ?_⟩
    · have := progress hc.len hr _ (pre ++ [x0]) rfl (by
        intro p1 i p2 e
        rcases split_append e with ⟨q, e1, e2⟩ | ⟨L1, e1, e2⟩
        · exact hc.ord p1 i q e1
        · cases L1 with
          | nil => simp at e1; obtain ⟨rfl, rfl⟩ := e1; rw [e2]; exact ⟨hs0, by simpa using hb0⟩
          | cons z L1 => simp at e1) x0 (by simp)
      rw [hun listed a hc] at this; cases this
    · obtain ⟨h1, o, ho, _⟩ := mem_ready.1 hi
      have hsz := (Array.getElem?_eq_some_iff.1 ho).1
      have hls := left_set hsz (show lst listed i = false from h1)
      by_cases hip : i ∈ pre
      · exact hc.pure hp hdst hlt hi hip fun a' hc' => ih (by omega) _ _ hc' (by omega)
      · by_cases hix : i ∈ xs
        · exact hstep f (by omega) listed a hc i hix hi hl
        · have h2 := List.all_eq_true.1 hlater i (by simpa using hsz)
          simp only [Bool.or_eq_true, List.contains_iff_mem, List.mem_append, hip, hix, or_self, false_or] at h2
          have := ready_closed hp hc.closed hc.len hi x0 h2
          rw [hun listed a hc] at this; cases this
end
theorem wx_cov {ops : Array Oper} {nt : Nat} {m : Lmap} {pt : PT} {L : List Nat} {x : Nat} {wx : List Let} {rs : List Rec} {s : Sg} {g : Nat → Option Ex} {env : Env} {h : Heap} (hwx : wxOf P tk fk ops nt m pt L x = some wx)
    (hp : pureL P tk fk ops nt L (sg0 ops.size 0 m) = some (rs, s)) (hg : g = gOf rs (sg0 ops.size 0 m)) (hrec : ∀ i ∈ L, ∃ r ∈ rs, r.idx = i) :
    ∀ i ∈ L, isPure (ops.getD i default).op = true → heapyOp P tk (ops.getD i default).op = true → (prs pt x).contains i = false → wx ≠ [] ∧ ∀ z, Heap.le z h → (∀ l ∈ wx, covX N env z l) →
      ∃ r ∈ rs, r.idx = i ∧ evP N env z g r.path ≠ none ∧ (evP N env z g r.path = some true → r.move = true ∨ ∃ u, ev N env z r.ex = some u) := by
  intro i hi h1 h2 h3
  obtain ⟨r, hr, rfl⟩ := hrec i hi
  unfold wxOf at hwx
  rw [hp] at hwx
  simp only at hwx
  obtain ⟨gs, h4, h5⟩ := collectW_spec hwx r hr (by simp only [waitsFor, h1, h2, h3]; rfl)
  refine ⟨fun e => by rw [e] at h5; simp at h5, fun z _ hcov => ⟨r, hr, rfl, ?_⟩⟩
  obtain ⟨b, h6, h7⟩ := hcov _ h5
  rw [evGs_path _ _ h4, ← hg] at h6
  refine ⟨by rw [h6]; simp, fun h8 => .inr ?_⟩
  rw [h6] at h8; cases h8
  exact h7 rfl
theorem dreg_sound (htk : ∀ t k, tk t = some k → N.tid k = t) (hfk : ∀ f k, fk f = some k → N.fid k = f) (hΓ : Good P N Γ) {ops : Array Oper} {nt : Nat} {pt : PT} {a0 : Nat → Value}
    (hp : prOk ops pt = true) (hdst : dstOk ops = true) (hlt : dstLt ops nt = true) (hns : Region.noSelect ops = true) {m : Lmap} (hnd : (m.map (·.1)).Nodup) {h0 : Heap} {w0 : World}
    {K : Env → Heap → Prop} {Q : Exit → Act → World → Prop} (hQ : Next m nt h0 w0 K (fun a w => Q .normal a w)) :
    ∀ (fuel : Nat) (p : DP) (d : DS) (pre : List Nat) (listed : Array Bool) (a : Act) (w : World) (ah : Act) (val : Nat → Value) (pb : Nat → Option Nat) (env : Env) (h : Heap) (ws : List Heap),
      dcomp P tk fk ops nt m pt pre p = some d → DCore P tk ops nt pt a0 pre listed a w ah val pb env h ws [] (fun _ _ => False) → Rel m nt h0 w0 pb env h ah w → dsW N Γ d ws env h K → left ops.size listed ≤ fuel →
      wpAny P .any ops Q fuel listed a w := by
  intro fuel
  induction fuel using Nat.strongRecOn with
  | _ fuel IH =>
    intro p d pre listed a w ah val pb env h ws hd hc hr hK hl
    cases p with
    | done L =>
      simp only [dcomp] at hd
      split at hd
      · rename_i s hs
        split at hd <;> cases hd
        rename_i hok
        simp only [Bool.and_eq_true, List.all_eq_true, List.contains_iff_mem, List.mem_range] at hok
        obtain ⟨rs, s', g, env1, hgd, h1, h2, h3, h4, h5, h6, h7⟩ := stage_core hnd hr hs hK
        obtain ⟨val', ah', h8, hrec, h9⟩ := hc.block htk hfk hdst hok.1 h1 h2 h3 h4
        have hr' := h5 ah' h9 h8.hnt (h8.hdf.trans hc.hdf.symm)
        exact done_any hp hdst hlt hok.2 (fun a' e1 e2 e3 => hQ _ _ _ _ _ h7 (hr'.same e1 e2 e3)) fuel listed a h8 hl
      · cases hd
    | eff L x r =>
      simp only [dcomp] at hd
      split at hd
      · rename_i s d' wx hs hd' hwx
        split at hd <;> cases hd
        rename_i hok
        simp only [Bool.and_eq_true] at hok
        obtain ⟨rs, s', g, env1, hgd, h1, h2, h3, h4, h5, h6, o, ei, c, ho, heff, hst, h7⟩ := stage_core hnd hr hs hK
        obtain ⟨val', ah', h8, hrec, h9⟩ := hc.block htk hfk hdst hok.1.1 h1 h2 h3 h4
        have hr' := h5 ah' h9 h8.hnt (h8.hdf.trans hc.hdf.symm)
        have hone : oneOk ops pt (pre ++ L) x = true := by
          have := hok.1.2
          unfold effOk at this
          simp only [Bool.and_eq_true] at this
          exact this.1
        refine step_any hp hdst hlt (xs := [x]) (by simp) hone hok.2 (F := fuel) (fun f hf listed' a' hc' y hy hry hly => ?_) fuel (Nat.le_refl _) listed a h8 hl
        simp only [List.mem_singleton] at hy; subst hy
        refine wpOp_mono ?_ (hc'.eff htk hfk hΓ hp hdst hlt hns hnd ho heff h9 hr' h6 hst hok.1.2 (wx_cov hwx h1 hgd hrec) h7 hry)
        rintro a2 w2 ⟨val2, ah2, pb2, env2, hh2, ws2, h10, h11, h12⟩
        obtain ⟨hun, _, ho', _⟩ := mem_ready.1 hry
        have := left_set (Array.getElem?_eq_some_iff.1 ho).1 (show lst listed' y = false from hun)
        exact IH f hf r d' _ _ a2 w2 ah2 val2 pb2 env2 hh2 ws2 hd' h10 h11 h12 (by omega)
      · cases hd
    | alt L x r y r' =>
      simp only [dcomp] at hd
      split at hd
      · rename_i s d1 s2 d2 wx wx' hs hd1 hs2 hd2 hwx hwx'
        split at hd <;> cases hd
        rename_i hok
        simp only [Bool.and_eq_true] at hok
        obtain ⟨⟨⟨hok1, hok2⟩, hok3⟩, hok4⟩ := hok
        obtain ⟨rs, s', g, env1, hgd, h1, h2, h3, h4, h5, h6, o, ei, c, ho, heff, hst, h7⟩ := stage_core hnd hr hs hK.1
        obtain ⟨rs', s'', g', env1', hgd', h1', h2', h3', h4', h5', h6', o', ei', c', ho', heff', hst', h7'⟩ := stage_core hnd hr hs2 hK.2
        rw [h1] at h1'
        cases h1'
        subst hgd'
        subst hgd
        obtain ⟨val', ah', h8, hrec, h9⟩ := hc.block htk hfk hdst hok1 h1 h2 h3 h4
        have hr' := h5 ah' h9 h8.hnt (h8.hdf.trans hc.hdf.symm)
        have hr'' := h5' ah' h9 h8.hnt (h8.hdf.trans hc.hdf.symm)
        have hone : oneOk ops pt (pre ++ L) x = true := by
          have := hok2
          unfold effOk at this
          simp only [Bool.and_eq_true] at this
          exact this.1
        refine step_any hp hdst hlt (xs := [x, y]) (by simp) hone hok4 (F := fuel) (fun f hf listed' a' hc' z hz hrz hlz => ?_) fuel (Nat.le_refl _) listed a h8 hl
        obtain ⟨hun, oz, hoz, _⟩ := mem_ready.1 hrz
        have hleft := left_set (Array.getElem?_eq_some_iff.1 hoz).1 (show lst listed' z = false from hun)
        simp only [List.mem_cons, List.not_mem_nil, or_false] at hz
        rcases hz with rfl | rfl
        · refine wpOp_mono ?_ (hc'.eff htk hfk hΓ hp hdst hlt hns hnd ho heff h9 hr' h6 hst hok2 (wx_cov hwx h1 rfl hrec) h7 hrz)
          rintro a2 w2 ⟨val2, ah2, pb2, env2, hh2, ws2, h10, h11, h12⟩
          exact IH f hf r d1 _ _ a2 w2 ah2 val2 pb2 env2 hh2 ws2 hd1 h10 h11 h12 (by omega)
        · refine wpOp_mono ?_ (hc'.eff htk hfk hΓ hp hdst hlt hns hnd ho' heff' h9 hr'' h6' hst' hok3 (wx_cov hwx' h1 rfl hrec) h7' hrz)
          rintro a2 w2 ⟨val2, ah2, pb2, env2, hh2, ws2, h10, h11, h12⟩
          exact IH f hf r' d2 _ _ a2 w2 ah2 val2 pb2 env2 hh2 ws2 hd2 h10 h11 h12 (by omega)
      · cases hd
theorem sound_dreg (htk : ∀ t k, tk t = some k → N.tid k = t) (hfk : ∀ f k, fk f = some k → N.fid k = f) (hΓ : Good P N Γ) (hmix : P.follows .mixedOrders = true) {ops : Array Oper} {nt : Nat} {pt : PT} {m : Lmap} (hnd : (m.map (·.1)).Nodup)
    {id : Nat} {p : DP} {d : DS} (hd : dregOk P tk fk ops nt m pt p = some d) : Sound P N Γ m nt (.dreg d) (.region id ops true) := by
  unfold dregOk at hd
  split at hd
  · rename_i hok
    simp only [Bool.and_eq_true] at hok
    obtain ⟨⟨⟨h1, h2⟩, h3⟩, h4⟩ := hok
    intro h0 w0 Q Q' pb env h a w hK hr hQ
    refine wp_region_any hmix ?_
    have hr' : Rel m nt h0 w0 pb env h a { w with drawn := w.drawn + 1 } := ⟨hr.elen, hr.plain, hr.prom, hr.priv, hr.pbm, hr.inj, ⟨hr.step.sub, hr.step.size, hr.step.os, hr.step.tape, hr.step.output, hr.step.frame⟩, hr.nt, hr.df⟩
    have hl0 : ∀ i, i < ops.size → lst (Array.replicate ops.size false) i = false := by
      intro i hi
      unfold lst
      simp [Array.getD, hi]
    refine dreg_sound htk hfk hΓ (a0 := fun t => a.tmps.getD t undef) h1 h2 h3 h4 hnd (h0 := h0) (w0 := w0) (K := Q .normal) (Q := Q') (fun pb env h a w hk hr => hQ .normal pb env h a w hk hr) _ p d [] _ a _ a (fun _ => undef) pb env h [] hd ?_ hr' hK ?_
    · refine ⟨by simp, ?_, ?_, ?_, List.nodup_nil, ?_, hr.nt, hr.df, ?_, hr.nt, hr.df, hr'.step.sub, hr'.priv, by simp, by simp⟩
      · intro i hi hl; rw [hl0 i hi] at hl; cases hl
      · intro i hi hl; rw [hl0 i hi] at hl; cases hl
      · intro p1 i p2 e; cases p1 <;> cases e
      · intro t
        unfold tv
        cases hw : wrOf ops t with
        | none => rfl
        | some i =>
          have hlt' : i < ops.size := by have := List.mem_of_find?_eq_some hw; simpa using this
          simp [hl0 i hlt']
      · intro t
        unfold tv
        cases hw : wrOf ops t with
        | none => rfl
        | some i => simp [inL]
    · unfold left
      have := List.countP_le_length (p := fun i => !lst (Array.replicate ops.size false) i) (l := List.range ops.size)
      simpa using this
  · cases hd
end Go.Cw
namespace Go.Cw
open Go
variable {P : Program} {N : Num} {tk fk : Nat → Option Nat} {Γ : Ctx}
def prStep (pt : PT) (bs : List Nat) : List Nat := bs.foldl (fun acc e => (e :: prs pt e).foldl (fun acc k => if acc.contains k then acc else acc ++ [k]) acc) []
def prOf (ops : Array Oper) : PT := ops.toList.foldl (fun pt o => pt ++ [prStep pt (boundOn o)]) []
def freeNow (ops : List Oper) (done : List Nat) : Nat → List (Nat × Oper)
  | i => match ops with
    | [] => []
    | o :: r => if !done.contains i && (boundOn o).all done.contains then (i, o) :: freeNow r done (i + 1) else freeNow r done (i + 1)
def closePure (ops : List Oper) : Nat → List Nat → List Nat → List Nat
  | 0, _, acc => acc
  | fuel + 1, done, acc =>
    match (freeNow ops (done ++ acc) 0).filter (fun x => isPure x.2.op) with
    | [] => acc
    | l => closePure ops fuel done (acc ++ l.map (·.1))
def planOf (ops : List Oper) : Nat → List Nat → DP
  | 0, _ => .done []
  | fuel + 1, done =>
    let L := closePure ops ops.length done []
    match (freeNow ops (done ++ L) 0).map (·.1) with
    | [] => .done L
    | [x] => .eff L x (planOf ops fuel (done ++ L ++ [x]))
    | x :: y :: _ => .alt L x (.eff [] y (planOf ops fuel (done ++ L ++ [x, y]))) y (.eff [] x (planOf ops fuel (done ++ L ++ [y, x])))
def comp (P : Program) (tk fk : Nat → Option Nat) (nt : Nat) (m : Lmap) : Code → Option St
  | .skip => some .skip
  | .ret => some .ret
  | .exit id => some (.exit id)
  | .region _ ops false => (stages P tk fk ops nt m [] (List.range ops.size)).map .reg
  | .region _ ops true => (dregOk P tk fk ops nt m (prOf ops) (planOf ops.toList (ops.size + 1) [])).map .dreg
  | .seq a b =>
    match comp P tk fk nt m a, comp P tk fk nt m b with
    | some s, some t => some (.seq s t)
    | _, _ => none
  | .cond x a b =>
    match condEx m x, comp P tk fk nt m a, comp P tk fk nt m b with
    | some e, some s, some t => some (.cond e s t)
    | _, _, _ => none
  | .block id a => (comp P tk fk nt m a).map (.block id)
  | .loop a => (comp P tk fk nt m a).map .loop
  | _ => none
theorem comp_sound (htk : ∀ t k, tk t = some k → N.tid k = t) (hfk : ∀ f k, fk f = some k → N.fid k = f) (hΓ : Good P N Γ) (hmix : P.follows .mixedOrders = true) {nt : Nat} {m : Lmap} (hnd : (m.map (·.1)).Nodup) :
    ∀ (c : Code) (s : St), comp P tk fk nt m c = some s → Sound P N Γ m nt s c := by
  intro c
  induction c with
  | skip => intro s h; simp only [comp] at h; cases h; exact sound_skip
  | ret => intro s h; simp only [comp] at h; cases h; exact sound_ret
  | exit id => intro s h; simp only [comp] at h; cases h; exact sound_exit
  | region id ops draw =>
    intro s h
    cases draw with
    | false =>
      simp only [comp, Option.map_eq_some_iff] at h
      obtain ⟨l, h, rfl⟩ := h
      exact sound_reg htk hfk hΓ hnd h
    | true =>
      simp only [comp, Option.map_eq_some_iff] at h
      obtain ⟨d, h, rfl⟩ := h
      exact sound_dreg htk hfk hΓ hmix hnd h
  | seq a b iha ihb =>
    intro s h
    simp only [comp] at h
    split at h <;> cases h
    rename_i s t h1 h2
    exact sound_seq (iha _ h1) (ihb _ h2)
  | cond x a b iha ihb =>
    intro s h
    simp only [comp] at h
    split at h <;> cases h
    rename_i e s t h0 h1 h2
    exact sound_cond h0 (iha _ h1) (ihb _ h2)
  | block id a ih =>
    intro s h
    simp only [comp, Option.map_eq_some_iff] at h
    obtain ⟨t, h, rfl⟩ := h
    exact sound_block (ih _ h)
  | loop a ih =>
    intro s h
    simp only [comp, Option.map_eq_some_iff] at h
    obtain ⟨t, h, rfl⟩ := h
    exact sound_loop (ih _ h)
  | _ => intro s h; simp [comp] at h
def compF (P : Program) (tk fk : Nat → Option Nat) (np : Nat) (m : Lmap) (fn : Func) : Option SFun :=
  match fn.body with
  | some c =>
    match comp P tk fk fn.ntmps m c, resEx P m fn.results.toList with
    | some s, some r =>
      if nodupN (m.map (·.1)) && (List.range np).all (fun i => m[i]? == some (i, false)) && decide (np ≤ fn.ntmps) && decide (np ≤ m.length) && !(fn.name == "runtime.NumGoroutine") then some ⟨np, m.length, s, r⟩ else none
    | _, _ => none
  | none => none
theorem compF_sound (htk : ∀ t k, tk t = some k → N.tid k = t) (hfk : ∀ f k, fk f = some k → N.fid k = f) (hΓ : Good P N Γ) (hmix : P.follows .mixedOrders = true) {f : FuncId} {fn : Func} (hf : P.funcs[f]? = some fn)
    {m : Lmap} {np : Nat} {F : SFun} (hF : compF P tk fk np m fn = some F) {args : List Value} {h : Heap} {K : Value → Heap → Prop} (hK : SF N Γ F args h K) : FC P f args h K := by
  unfold compF at hF
  split at hF
  · rename_i c hc
    split at hF
    · rename_i s r hs hr
      split at hF <;> cases hF
      rename_i hok
      simp only [Bool.and_eq_true, decide_eq_true_eq, List.all_eq_true, List.mem_range, beq_iff_eq, Bool.not_eq_true'] at hok
      obtain ⟨⟨⟨⟨h1, h2⟩, h3⟩, h4⟩, h5⟩ := hok
      exact fun_sound hf h5 hc (comp_sound htk hfk hΓ hmix (nodupN_iff _ h1) c s hs) hr rfl h2 h3 h4 hK
    · cases hF
  · cases hF
end Go.Cw
namespace Go.Cw
open Go
variable {P : Program} {N : Num} {tk fk : Nat → Option Nat} {Γ : Ctx}
def nd (o : Oper) : Bool := match o.op with
  | .defer _ => false
  | _ => true
end Go.Cw
namespace Go.Cw
open Go
variable {P : Program} {N : Num} {tk fk : Nat → Option Nat} {Γ : Ctx}
def noPb : Nat → Option Nat := fun _ => none
def plainM (m : Lmap) : Bool := m.all fun x => !x.2
abbrev PR (m : Lmap) (nt : Nat) (env : Env) (h : Heap) (a : Act) (w : World) : Prop := Rel m nt h w noPb env h a w
def MOk (B : Nat) (Ds : List Nat) (h : Heap) (w : World) : Prop := Ds.Nodup ∧ ∀ D ∈ Ds, B ≤ D ∧ w.heap[D]? = some (.deferred (some [])) ∧ h D = none
theorem MOk.step {B : Nat} {Ds : List Nat} {h h' : Heap} {w w' : World} (hm : MOk B Ds h w) (hs : WStep h h' w w') : MOk B Ds h' w' := by
  refine ⟨hm.1, fun D hD => ?_⟩
  obtain ⟨h1, h2, h3⟩ := hm.2 D hD
  have hlt := (Array.getElem?_eq_some_iff.1 h2).1
  obtain ⟨h4, h5⟩ := hs.frame D hlt h3
  exact ⟨h1, by rw [h5]; exact h2, h4⟩
theorem plainM_spec {m : Lmap} (hp : plainM m = true) {i s : Nat} : m[i]? ≠ some (s, true) := by
  intro h
  have := List.mem_of_getElem? h
  simp only [plainM, List.all_eq_true] at hp
  have := hp _ this
  simp at this
theorem noPb_of {m : Lmap} (hp : plainM m = true) {nt : Nat} {h0 : Heap} {w0 : World} {pb : Nat → Option Nat} {env : Env} {h : Heap} {a : Act} {w : World} (hr : Rel m nt h0 w0 pb env h a w) : pb = noPb := by
  funext i
  cases hb : pb i with
  | none => rfl
  | some b => obtain ⟨s, h1, _⟩ := hr.pbm i b hb; exact absurd h1 (plainM_spec hp)
theorem Rel.again {m : Lmap} (hp : plainM m = true) {nt : Nat} {h0 : Heap} {w0 : World} {pb : Nat → Option Nat} {env : Env} {h : Heap} {a : Act} {w : World} (hr : Rel m nt h0 w0 pb env h a w) : PR m nt env h a w := by
  have := noPb_of hp hr
  subst this
  exact ⟨hr.elen, hr.plain, hr.prom, hr.priv, (fun i b hb => by cases hb), hr.inj, WStep.refl hr.step.sub, hr.nt, hr.df⟩
theorem PR.at {m : Lmap} {nt : Nat} {env : Env} {h h' : Heap} {a : Act} {w w' : World} (hr : PR m nt env h a w) (hs : h'.sub w') : PR m nt env h' a w' :=
  ⟨hr.elen, hr.plain, hr.prom, (fun i b hb => by cases hb), (fun i b hb => by cases hb), hr.inj, WStep.refl hs, hr.nt, hr.df⟩
end Go.Cw
namespace Go.Cw
open Go Go.RowKit
variable {P : Program} {N : Num} {tk fk : Nat → Option Nat} {Γ : Ctx}
theorem WStep.put {h G : Heap} {w W : World} (hs : WStep h G w W) {l : Nat} (hg : G l = none) (hl : w.heap.size ≤ l) (o : Obj) : WStep h G w (W.putObj l o) := by
  refine ⟨fun b o' hb => ?_, by simpa using hs.size, hs.os, hs.tape, hs.output, fun b hb hn => ?_⟩
  · have : b ≠ l := by intro e; subst e; rw [hg] at hb; cases hb
    rw [World.putObj_heap_other this]; exact hs.sub b o' hb
  · obtain ⟨h1, h2⟩ := hs.frame b hb hn
    have : b ≠ l := by omega
    exact ⟨h1, by rw [World.putObj_heap_other this]; exact h2⟩
end Go.Cw
namespace Go.Cw
open Go Go.RowKit
variable {P : Program} {N : Num} {tk fk : Nat → Option Nat} {Γ : Ctx}
end Go.Cw
namespace Go.Cw
open Go Go.RowKit
variable {P : Program} {N : Num} {tk fk : Nat → Option Nat} {Γ : Ctx}
end Go.Cw
namespace Go.Cw
open Go
def ele : Env → Env → Prop
  | [], [] => True
  | none :: e, _ :: e' => ele e e'
  | some x :: e, some y :: e' => x = y ∧ ele e e'
  | _, _ => False
theorem ele_refl : ∀ e : Env, ele e e
  | [] => trivial
  | none :: e => ele_refl e
  | some _ :: e => ⟨rfl, ele_refl e⟩
theorem ele_trans : ∀ (a b c : Env), ele a b → ele b c → ele a c := by
  intro a
  induction a with
  | nil => intro b c h1 h2; cases b <;> cases c <;> simp_all [ele]
  | cons x a ih =>
    intro b c h1 h2
    cases b with
    | nil => cases x <;> simp [ele] at h1
    | cons y b =>
      cases c with
      | nil => cases y <;> simp [ele] at h2
      | cons z c =>
        cases x with
        | none =>
          simp only [ele] at h1 ⊢
          cases y with
          | none => simp only [ele] at h2; exact ih _ _ h1 h2
          | some y =>
            cases z with
            | none => simp [ele] at h2
            | some z => simp only [ele] at h2; exact ih _ _ h1 h2.2
        | some x =>
          cases y with
          | none => simp [ele] at h1
          | some y =>
            cases z with
            | none => simp [ele] at h2
            | some z => simp only [ele] at h1 h2 ⊢; exact ⟨h1.1.trans h2.1, ih _ _ h1.2 h2.2⟩
theorem ele_get : ∀ {e e' : Env}, ele e e' → ∀ {i : Nat} {v : Value}, Env.get e i = some v → Env.get e' i = some v
  | [], [], _, i, v, h => h
  | none :: e, y :: e', hl, i, v, h => by
    cases i with
    | zero => simp [Env.get] at h
    | succ i => have := ele_get (e := e) (e' := e') hl (i := i) (v := v) (by simpa [Env.get] using h); simpa [Env.get] using this
  | some x :: e, some y :: e', hl, i, v, h => by
    obtain ⟨rfl, hl⟩ := hl
    cases i with
    | zero => simpa [Env.get] using h
    | succ i => have := ele_get (e := e) (e' := e') hl (i := i) (v := v) (by simpa [Env.get] using h); simpa [Env.get] using this
  | [], _ :: _, hl, _, _, _ => hl.elim
  | some _ :: _, none :: _, hl, _, _, _ => hl.elim
  | none :: _, [], hl, _, _, _ => hl.elim
  | some _ :: _, [], hl, _, _, _ => hl.elim
theorem ele_put : ∀ {e e' : Env}, ele e e' → ∀ (i : Nat) (v : Value), ele (e.put i v) (e'.put i v)
  | [], [], _, i, v => trivial
  | none :: e, y :: e', hl, i, v => by
    cases i with
    | zero => exact ⟨rfl, hl⟩
    | succ i => exact ele_put (e := e) (e' := e') hl i v
  | some x :: e, some y :: e', hl, i, v => by
    obtain ⟨rfl, hl⟩ := hl
    cases i with
    | zero => exact ⟨rfl, hl⟩
    | succ i => exact ⟨rfl, ele_put (e := e) (e' := e') hl i v⟩
  | [], _ :: _, hl, _, _ => hl.elim
  | some _ :: _, none :: _, hl, _, _ => hl.elim
  | none :: _, [], hl, _, _ => hl.elim
  | some _ :: _, [], hl, _, _ => hl.elim
section
variable {N : Num} {e e' : Env} {h : Heap}
theorem o1V_mono (hl : ele e e') {o : O1} {u r : UV} (hr : o1V N e h o u = some r) : o1V N e' h o u = some r := by
  cases u with
  | v x => simpa only [o1V] using hr
  | p i off =>
    cases o <;> simp only [o1V] at hr ⊢ <;> try exact hr
    · split at hr
      · rename_i c hc; rw [ele_get hl hc]; exact hr
      · cases hr
    · split at hr
      · rename_i c hc; rw [ele_get hl hc]; exact hr
      · cases hr
theorem ev_mono (hl : ele e e') : ∀ (x : Ex) {u : UV}, ev N e h x = some u → ev N e' h x = some u := by
  intro x
  induction x with
  | var i =>
    intro u hu; simp only [ev, Option.map_eq_some_iff] at hu ⊢
    obtain ⟨v, h1, h2⟩ := hu; exact ⟨v, ele_get hl h1, h2⟩
  | pad i =>
    intro u hu; simp only [ev, Option.map_eq_some_iff] at hu ⊢
    obtain ⟨v, h1, h2⟩ := hu; exact ⟨v, ele_get hl h1, h2⟩
  | cnt i =>
    intro u hu; simp only [ev, Option.map_eq_some_iff] at hu ⊢
    obtain ⟨v, h1, h2⟩ := hu; exact ⟨v, ele_get hl h1, h2⟩
  | con x => intro u hu; exact hu
  | mkf f => intro u hu; exact hu
  | o1 o a ih =>
    intro u hu; simp only [ev, Option.bind_eq_some_iff] at hu ⊢
    obtain ⟨v, h1, h2⟩ := hu; exact ⟨v, ih h1, o1V_mono hl h2⟩
  | o2 o a b iha ihb =>
    intro u hu; simp only [ev, Option.bind_eq_some_iff] at hu ⊢
    obtain ⟨v, h1, w, h2, h3⟩ := hu; exact ⟨v, iha h1, w, ihb h2, h3⟩
  | o3 o a b c iha ihb ihc =>
    intro u hu; simp only [ev, Option.bind_eq_some_iff] at hu ⊢
    obtain ⟨v, h1, w, h2, z, h3, h4⟩ := hu; exact ⟨v, iha h1, w, ihb h2, z, ihc h3, h4⟩
  | pick c a b ihc iha ihb =>
    intro u hu; simp only [ev] at hu ⊢
    split at hu
    · rename_i hc; rw [ihc hc]; exact iha hu
    · rename_i hc; rw [ihc hc]; exact ihb hu
    · cases hu
  | upd base i n a v ihb iha ihv =>
    intro u hu; simp only [ev] at hu ⊢
    split at hu
    · rename_i h1 h2 h3; rw [ihb h1, iha h2, ihv h3]; exact hu
    · cases hu
theorem evGs_mono (hl : ele e e') : ∀ (g : List (Ex × Bool)) {b : Bool}, evGs N e h g = some b → evGs N e' h g = some b := by
  intro g
  induction g with
  | nil => intro b hb; exact hb
  | cons x r ih =>
    obtain ⟨x, w⟩ := x
    intro b hb
    simp only [evGs] at hb ⊢
    split at hb
    · cases hb
    · rename_i y hy
      rw [ev_mono hl x hy]
      split at hb
      · rename_i hw; simp only [hw, if_true]; exact ih hb
      · rename_i hw; simp only [hw, if_false]; exact hb
    · rename_i z hz hn
      cases hb
      cases z with
      | p i off => rw [ev_mono hl x hn]
      | v z => rw [ev_mono hl x hn]; cases z <;> first | rfl | (exact absurd rfl (hz _))
theorem evVals_mono (hl : ele e e') : ∀ (l : List Ex) {vs : List Value}, evVals N e h l = some vs → evVals N e' h l = some vs := by
  intro l
  induction l with
  | nil => intro vs hv; exact hv
  | cons x r ih =>
    intro vs hv
    simp only [evVals] at hv ⊢
    split at hv <;> cases hv
    rename_i y ys h1 h2
    rw [ev_mono hl x h1, ih h2]
theorem putLets_mono (hl : ele e e') : ∀ (l : List Let) {f f' g : Env}, ele f f' → putLets N e h l f = some g → ∃ g', putLets N e' h l f' = some g' ∧ ele g g' := by
  intro l
  induction l with
  | nil => intro f f' g hf hg; cases hg; exact ⟨f', rfl, hf⟩
  | cons x r ih =>
    intro f f' g hf hg
    simp only [putLets] at hg ⊢
    split at hg
    · cases hg
    · rename_i hb; rw [evGs_mono hl _ hb]; exact ih (ele_put hf _ _) hg
    · rename_i hb
      rw [evGs_mono hl _ hb]
      split at hg
      · rename_i y hy; rw [ev_mono hl _ hy]; exact ih (ele_put hf _ _) hg
      · cases hg
end
def Good1 (Γ : Ctx) : Prop := ∀ k us h (K K' : Value → Heap → Prop), (∀ v h, K v h → K' v h) → Γ k us h K → Γ k us h K'
class MonoQ (Q : SE → Env → Heap → Prop) : Prop where
  up : ∀ {e env env' h}, ele env env' → Q e env h → Q e env' h
theorem efW_imp {N : Num} {Γ : Ctx} (hΓ : Good1 Γ) {f : Ef} {us : List Value} {h : Heap} {K K' : Value → Heap → Prop} (hKK : ∀ v h, K v h → K' v h) (hx : efW N Γ f us h K) : efW N Γ f us h K' := by
  unfold efW at hx ⊢
  split at hx
  · exact fun b hb => hKK _ _ (hx b hb)
  · exact fun b hb => hKK _ _ (hx b hb)
  · obtain ⟨m, news, h1, h2⟩ := hx
    refine ⟨m, news, h1, ?_⟩
    split at h2
    · rename_i hn
      simp only [hn, if_true]
      split at h2
      · exact hKK _ _ h2
      · obtain ⟨h', h3, h4⟩ := h2; exact ⟨h', h3, hKK _ _ h4⟩
    · rename_i hn
      simp only [hn, if_false]
      obtain ⟨h3, h4, m', olds, h5, h6⟩ := h2
      exact ⟨h3, h4, m', olds, h5, fun b cap tail a1 a2 a3 a4 => hKK _ _ (h6 b cap tail a1 a2 a3 a4)⟩
  · exact hΓ _ _ _ _ _ hKK hx
  · obtain ⟨k, h1, h2, h3⟩ := hx; exact ⟨k, h1, h2, hΓ _ _ _ _ _ hKK h3⟩
  · exact fun b hb => hKK _ _ (hx b hb)
  · obtain ⟨es, ck, h1, x, h2, h3⟩ := hx
    refine ⟨es, ck, h1, x, h2, ?_⟩
    split at h3 <;> exact hKK _ _ h3
  · obtain ⟨es, ck, h1, x, h2, h3⟩ := hx
    refine ⟨es, ck, h1, x, h2, ?_⟩
    split at h3 <;> exact hKK _ _ h3
  · obtain ⟨h1, h', h2, h3⟩ := hx; exact ⟨h1, h', h2, hKK _ _ h3⟩
  · obtain ⟨c, h1, h', h2, h3, h4⟩ := hx; exact ⟨c, h1, h', h2, h3, hKK _ _ h4⟩
  · exact fun b hb => hKK _ _ (hx b hb)
  · obtain ⟨es, ck, h1, h2⟩ := hx; exact ⟨es, ck, h1, fun b hb => hKK _ _ (h2 b hb)⟩
  · rcases hx with ⟨s1, s2, s3, h1, h2⟩ | ⟨m, since, seen, last, es, ck, h1, h2, h3, h4, h5⟩
    · exact .inl ⟨s1, s2, s3, h1, hKK _ _ h2⟩
    · refine .inr ⟨m, since, seen, last, es, ck, h1, h2, h3, h4, fun c hc => ?_⟩
      have := h5 c hc
      split at this <;> exact hKK _ _ this
  · obtain ⟨m, since, seen, stepped, stamp, es, h1, h2, h3, e, h4, h5⟩ := hx
    exact ⟨m, since, seen, stepped, stamp, es, h1, h2, h3, e, h4, hKK _ _ h5⟩
  · exact hx.elim
section
variable {N : Num} {Γ : Ctx}
theorem putD_mono {e e' : Env} (hl : ele e e') (d : Option Nat) (v : Value) : ele (putD e d v) (putD e' d v) := by
  cases d with
  | none => exact hl
  | some i => exact ele_put hl i v
theorem eiW_mono (hΓ : Good1 Γ) {x : EI} {e e' f f' : Env} {h : Heap} {K K' : Env → Heap → Prop} (hK : ∀ {e e' h}, ele e e' → K e h → K' e' h) (hl : ele e e') (hf : ele f f') (hx : eiW N Γ x e f h K) : eiW N Γ x e' f' h K' := by
  cases x with
  | ef gs ff args dst =>
    rcases hx with ⟨h1, us, h2, h3⟩ | ⟨h1, h2⟩
    · exact .inl ⟨evGs_mono hl _ h1, us, evVals_mono hl _ h2, efW_imp hΓ (fun v h hk => hK (putD_mono hf _ _) hk) h3⟩
    · exact .inr ⟨evGs_mono hl _ h1, hK (putD_mono hf _ _) h2⟩
  | pnew i x => obtain ⟨v, h1, h2⟩ := hx; exact ⟨v, ev_mono hl _ h1, hK (ele_put hf _ _) h2⟩
  | pst i x => obtain ⟨v, h1, h2⟩ := hx; exact ⟨v, ev_mono hl _ h1, hK (ele_put hf _ _) h2⟩
theorem stgW_mono (hΓ : Good1 Γ) {s : Stg} {e e' : Env} {h : Heap} {K K' : Env → Heap → Prop} (hK : ∀ {e e' h}, ele e e' → K e h → K' e' h) (hl : ele e e') (hx : stgW N Γ s e h K) : stgW N Γ s e' h K' := by
  obtain ⟨l, x⟩ := s
  obtain ⟨f, h1, h2⟩ := hx
  obtain ⟨f', h3, h4⟩ := putLets_mono hl _ hl h1
  refine ⟨f', h3, ?_⟩
  cases x with
  | none => exact hK h4 h2
  | some x => exact eiW_mono hΓ hK hl h4 h2
theorem stgsW_mono (hΓ : Good1 Γ) : ∀ (l : List Stg) {e e' : Env} {h : Heap} {K K' : Env → Heap → Prop}, (∀ {e e' h}, ele e e' → K e h → K' e' h) → ele e e' → stgsW N Γ l e h K → stgsW N Γ l e' h K' := by
  intro l
  induction l with
  | nil => intro e e' h K K' hK hl hx; exact hK hl hx
  | cons s r ih => intro e e' h K K' hK hl hx; exact stgW_mono hΓ (fun hl hx => ih hK hl hx) hl hx
theorem covX_mono {e e' : Env} {h : Heap} (hl : ele e e') {l : Let} (hc : covX N e h l) : covX N e' h l := by
  obtain ⟨b, h1, h2⟩ := hc
  exact ⟨b, evGs_mono hl _ h1, fun hb => let ⟨u, hu⟩ := h2 hb; ⟨u, ev_mono hl _ hu⟩⟩
theorem dsK_mono {fl : Bool} {wx : List Let} {ws : List Heap} {e e' f f' : Env} {h h' : Heap} {K K' : List Heap → Env → Heap → Prop} (hK : ∀ ws, K ws f h' → K' ws f' h') (hl : ele e e') (hk : dsK N fl wx ws e h K f h') : dsK N fl wx ws e' h K' f' h' := by
  unfold dsK at hk ⊢
  split at hk
  · exact ⟨hk.1, hK _ hk.2⟩
  · obtain ⟨x, h1, h2, h3⟩ := hk
    exact ⟨x, h1.imp id fun ⟨a, b⟩ => ⟨a, fun l hl' => covX_mono hl (b l hl')⟩, h2, hK _ h3⟩
theorem dsW_mono (hΓ : Good1 Γ) : ∀ (d : DS) {ws : List Heap} {e e' : Env} {h : Heap} {K K' : Env → Heap → Prop}, (∀ {e e' h}, ele e e' → K e h → K' e' h) → ele e e' → dsW N Γ d ws e h K → dsW N Γ d ws e' h K' := by
  intro d
  induction d with
  | done s => intro ws e e' h K K' hK hl hx; exact stgW_mono hΓ hK hl hx
  | eff fl wx s r ih => intro ws e e' h K K' hK hl hx; exact stgW_mono hΓ (fun hl' hx => dsK_mono (fun ws hx => ih hK hl' hx) hl hx) hl hx
  | alt fl wx s r fl' wx' s' r' ih ih' =>
    intro ws e e' h K K' hK hl hx
    exact ⟨stgW_mono hΓ (fun hl' hx => dsK_mono (fun ws hx => ih hK hl' hx) hl hx) hl hx.1, stgW_mono hΓ (fun hl' hx => dsK_mono (fun ws hx => ih' hK hl' hx) hl hx) hl hx.2⟩
theorem SW_mono (hΓ : Good1 Γ) : ∀ (s : St) {e e' : Env} {h : Heap} {Q Q' : SE → Env → Heap → Prop}, (∀ {x e e' h}, ele e e' → Q x e h → Q' x e' h) → ele e e' → SW N Γ s Q e h → SW N Γ s Q' e' h := by
  intro s
  induction s with
  | skip => intro e e' h Q Q' hQ hl hx; exact hQ hl hx
  | ret => intro e e' h Q Q' hQ hl hx; exact hQ hl hx
  | exit i => intro e e' h Q Q' hQ hl hx; exact hQ hl hx
  | seq a b iha ihb =>
    intro e e' h Q Q' hQ hl hx
    refine iha ?_ hl hx
    intro x e e' h hl hx
    cases x with
    | normal => exact ihb hQ hl hx
    | exit i => exact hQ hl hx
    | ret => exact hQ hl hx
  | reg l => intro e e' h Q Q' hQ hl hx; exact stgsW_mono hΓ l (fun hl hx => hQ hl hx) hl hx
  | dreg d => intro e e' h Q Q' hQ hl hx; exact dsW_mono hΓ d (fun hl hx => hQ hl hx) hl hx
  | cond c a b iha ihb =>
    intro e e' h Q Q' hQ hl hx
    obtain ⟨t, h1, h2, h3⟩ := hx
    exact ⟨t, ev_mono hl _ h1, fun ht => iha hQ hl (h2 ht), fun ht => ihb hQ hl (h3 ht)⟩
  | block i a ih =>
    intro e e' h Q Q' hQ hl hx
    refine ih ?_ hl hx
    intro x e e' h hl hx
    cases x with
    | normal => exact hQ hl hx
    | exit j =>
      simp only at hx ⊢
      split at hx
      · rename_i hj; simp only [hj, if_true]; exact hQ hl hx
      · rename_i hj; simp only [hj, if_false]; exact hQ hl hx
    | ret => exact hQ hl hx
  | loop s ih =>
    intro e e' h Q Q' hQ hl hx
    obtain ⟨I, n, h1, h2⟩ := hx
    refine ⟨fun n e h => ∃ e0, ele e0 e ∧ I n e0 h, n, ⟨e, hl, h1⟩, ?_⟩
    rintro n e h ⟨e0, h3, h4⟩
    refine ih ?_ h3 (h2 n e0 h h4)
    intro x e e' h hl hx
    cases x with
    | normal => obtain ⟨n', h5, h6⟩ := hx; exact ⟨n', h5, e, hl, h6⟩
    | exit i => exact hQ hl hx
    | ret => exact hQ hl hx
  | rfn k off i ip asg body iha ihb =>
    intro e e' h Q Q' hQ hl hx
    obtain ⟨c, a, m, es, ck, h1, h2, h3, h4, h5, J, h6, h7⟩ := hx
    refine ⟨c, a, m, es, ck, ele_get hl h1, h2, h3, h4, h5, J, h6, fun dn G hJ => ?_⟩
    obtain ⟨h8, h9, h10⟩ := h7 dn G hJ
    refine ⟨h8, fun hd => hQ hl (h9 hd), fun x hx hn => ?_⟩
    refine iha ?_ (ele_put hl _ _) (h10 x hx hn)
    intro y f f' h hl' hy
    cases y with
    | normal =>
      refine ihb ?_ hl' hy
      intro z g g' h hl'' hz
      cases z with
      | normal => exact hz
      | exit i => exact hQ hl hz
      | ret => exact hQ hl hz
    | exit i => exact hy
    | ret => exact hy
end
end Go.Cw
namespace Go.Cw
open Go
class GoodC (Γ : Ctx) : Prop where
  imp : Good1 Γ
def GF (P : Program) (N : Num) : Ctx := fun k args h K => FC P (N.fid k) args h K
def Has (P : Program) (N : Num) (k : Nat) (F : SFun) : Prop := ∀ args h K, SF N (GF P N) F args h K → GF P N k args h K
abbrev Spec := List Value → Heap → (Value → Heap → Prop) → Prop
def Sat (S G : Spec) : Prop := ∀ args h K, S args h K → G args h K
theorem Sat.of {P : Program} {N : Num} {k : Nat} {F : SFun} {S : Spec} (hh : Has P N k F) (hs : Sat S (SF N (GF P N) F)) : Sat S (GF P N k) := fun args h K hx => hh args h K (hs args h K hx)
instance (P : Program) (N : Num) : GoodC (GF P N) where
  imp := by
    intro k us h K K' hKK hx
    rcases hx with hx | hx
    · refine .inl ⟨hx.1, fun w hs cs => ?_⟩
      obtain ⟨e, w', fr, ⟨v, h', h1, h2, h3⟩, h4⟩ := hx.2 w hs cs
      exact ⟨e, w', fr, ⟨v, h', h1, hKK _ _ h2, h3⟩, h4⟩
    · refine .inr fun w hs => ?_
      obtain ⟨v, h', w', h1, h2, h3⟩ := hx w hs
      exact ⟨v, h', w', h1, hKK _ _ h2, h3⟩
def seqK (N : Num) (Γ : Ctx) (b : St) (Q : SE → Env → Heap → Prop) : SE → Env → Heap → Prop := fun e env h => match e with
  | .normal => SW N Γ b Q env h
  | e => Q e env h
def blkK (i : Nat) (Q : SE → Env → Heap → Prop) : SE → Env → Heap → Prop := fun e env h => match e with
  | .exit j => if j = i then Q .normal env h else Q (.exit j) env h
  | e => Q e env h
def loopK {σ : Type} (E : σ → Env) (I : σ → Heap → Prop) (m : σ → Nat) (n : Nat) (Q : SE → Env → Heap → Prop) : SE → Env → Heap → Prop := fun e env h => match e with
  | .normal => ∃ s, m s < n ∧ ele (E s) env ∧ I s h
  | e => Q e env h
def finK (N : Num) (res : List Ex) (K : Value → Heap → Prop) : SE → Env → Heap → Prop := fun e env h => match e with
  | .exit _ => False
  | _ => ∃ vs, evVals N env h res = some vs ∧ K (tup vs) h
def meetK (R : Env → Heap → Prop) (Q : SE → Env → Heap → Prop) : SE → Env → Heap → Prop := fun e env h => match e with
  | .normal => ∃ env0, ele env0 env ∧ R env0 h
  | e => Q e env h
def normK (Q : SE → Env → Heap → Prop) : Env → Heap → Prop := Q .normal
def stgsK (N : Num) (Γ : Ctx) (r : List Stg) (K : Env → Heap → Prop) : Env → Heap → Prop := fun env h => stgsW N Γ r env h K
def dsC (N : Num) (Γ : Ctx) (r : DS) (K : Env → Heap → Prop) : List Heap → Env → Heap → Prop := fun ws env h => dsW N Γ r ws env h K
def effK (K : Env → Heap → Prop) (d : Option Nat) (env1 : Env) : Value → Heap → Prop := fun v h => K (putD env1 d v) h
def letW (o : Option Env) (K : Env → Heap → Prop) (h : Heap) : Prop := match o with
  | some e => K e h
  | none => False
def letE (N : Num) (Γ : Ctx) (x : EI) (o : Option Env) (env : Env) (h : Heap) (K : Env → Heap → Prop) : Prop := match o with
  | some e => eiW N Γ x env e h K
  | none => False
def pnewW (i : Nat) (o : Option UV) (env1 : Env) (h : Heap) (K : Env → Heap → Prop) : Prop := match o with
  | some (.v x) => K (env1.put i (.agg x.cells)) h
  | _ => False
def pstW (i : Nat) (o : Option UV) (env1 : Env) (h : Heap) (K : Env → Heap → Prop) : Prop := match o with
  | some (.v x) => K (env1.put i x) h
  | _ => False
def argsW (N : Num) (Γ : Ctx) (f : Ef) (o : Option (List Value)) (h : Heap) (K : Value → Heap → Prop) : Prop := match o with
  | some us => efW N Γ f us h K
  | none => False
def guardW (N : Num) (Γ : Ctx) (o : Option Bool) (f : Ef) (args : List Ex) (d : Option Nat) (env0 env1 : Env) (h : Heap) (K : Env → Heap → Prop) : Prop := match o with
  | some true => argsW N Γ f (evVals N env0 h args) h (effK K d env1)
  | some false => K (putD env1 d undef) h
  | none => False
def condW (N : Num) (Γ : Ctx) (o : Option UV) (a b : St) (Q : SE → Env → Heap → Prop) (env : Env) (h : Heap) : Prop := match o with
  | some (.v (.bool true)) => SW N Γ a Q env h
  | some (.v (.bool false)) => SW N Γ b Q env h
  | _ => False
def altW (N : Num) (Γ : Ctx) (d : DS) (ws : List Heap) (env : Env) (h : Heap) (K : Env → Heap → Prop) : Prop := dsW N Γ d ws env h K
def leW (ws : List Heap) (h : Heap) (A : Prop) : Prop := (∀ x ∈ ws, Heap.le x h) ∧ A
def valsW (o : Option (List Value)) (K : Value → Heap → Prop) (h : Heap) : Prop := match o with
  | some vs => K (tup vs) h
  | none => False
def letG (N : Num) (g : Option Bool) (env : Env) (h : Heap) (i : Nat) (e : Ex) (r : List Let) (E : Env) : Option Env := match g with
  | some true => putLets N env h (⟨[], i, e⟩ :: r) E
  | some false => putLets N env h r (E.put i undef)
  | none => none
def letV (N : Num) (o : Option UV) (env : Env) (h : Heap) (i : Nat) (r : List Let) (E : Env) : Option Env := match o with
  | some (.v x) => putLets N env h r (E.put i x)
  | _ => none
def gsS (N : Num) (o : Option UV) (w : Bool) (env : Env) (h : Heap) (r : List (Ex × Bool)) : Option Bool := match o with
  | some (.v (.bool b)) => if b = w then evGs N env h r else some false
  | some _ => some false
  | none => none
def consV (o : Option UV) (r : Option (List Value)) : Option (List Value) := match o, r with
  | some (.v x), some xs => some (x :: xs)
  | _, _ => none
def pickU (c a b : Option UV) : Option UV := match c with
  | some (.v (.bool true)) => a
  | some (.v (.bool false)) => b
  | _ => none
def updU (i n : Nat) (b a v : Option UV) : Option UV := match b, a, v with
    | some (.v (.agg c)), some (.p j off), some (.v x) => if j = i ∧ x.cells.size = n ∧ off + n ≤ c.size ∧ x.cells.toList.all one = true then some (.v (.agg (putL c off x.cells.toList))) else none
    | _, _, _ => none
def u1 (N : Num) (env : Env) (h : Heap) (o : O1) (a : Option UV) : Option UV := a.bind (o1V N env h o)
def u2 (h : Heap) (o : O2) (a b : Option UV) : Option UV := a.bind fun x => b.bind fun y => o2V h o x y
def u3 (o : O3) (a b c : Option UV) : Option UV := a.bind fun x => b.bind fun y => c.bind fun z => o3V o x y z
section
variable {N : Num} {Γ : Ctx} {env env' E E' : Env} {h : Heap} {K : Env → Heap → Prop} {Q : SE → Env → Heap → Prop} {s : St} {l : List Let} {r : List Stg} {x : EI} {i n : Nat}
@[congr] theorem SW_congr (e : env = env') : SW N Γ s Q env h = SW N Γ s Q env' h := by rw [e]
@[congr] theorem stgsW_congr (e : env = env') : stgsW N Γ r env h K = stgsW N Γ r env' h K := by rw [e]
@[congr] theorem stgW_congr {s : Stg} (e : env = env') : stgW N Γ s env h K = stgW N Γ s env' h K := by rw [e]
@[congr] theorem dsW_congr {d : DS} {ws : List Heap} (e : env = env') : dsW N Γ d ws env h K = dsW N Γ d ws env' h K := by rw [e]
@[congr] theorem eiW_congr (e : env = env') (e2 : E = E') : eiW N Γ x env E h K = eiW N Γ x env' E' h K := by rw [e, e2]
@[congr] theorem putLets_congr (e : env = env') (e2 : E = E') : putLets N env h l E = putLets N env' h l E' := by rw [e, e2]
@[congr] theorem ev_congr {x : Ex} (e : env = env') : ev N env h x = ev N env' h x := by rw [e]
@[congr] theorem evVals_congr {x : List Ex} (e : env = env') : evVals N env h x = evVals N env' h x := by rw [e]
@[congr] theorem evGs_congr {x : List (Ex × Bool)} (e : env = env') : evGs N env h x = evGs N env' h x := by rw [e]
@[congr] theorem seqK_congr {e : SE} (he : env = env') : seqK N Γ s Q e env h = seqK N Γ s Q e env' h := by rw [he]
@[congr] theorem blkK_congr {e : SE} (he : env = env') : blkK i Q e env h = blkK i Q e env' h := by rw [he]
@[congr] theorem loopK_congr {σ : Type} {F : σ → Env} {I : σ → Heap → Prop} {m : σ → Nat} {e : SE} (he : env = env') : loopK F I m n Q e env h = loopK F I m n Q e env' h := by rw [he]
@[congr] theorem meetK_congr {R : Env → Heap → Prop} {e : SE} (he : env = env') : meetK R Q e env h = meetK R Q e env' h := by rw [he]
@[congr] theorem finK_congr {res : List Ex} {K : Value → Heap → Prop} {e : SE} (he : env = env') : finK N res K e env h = finK N res K e env' h := by rw [he]
@[congr] theorem normK_congr (he : env = env') : normK Q env h = normK Q env' h := by rw [he]
@[congr] theorem stgsK_congr (he : env = env') : stgsK N Γ r K env h = stgsK N Γ r K env' h := by rw [he]
@[congr] theorem dsC_congr {r : DS} {ws : List Heap} (he : env = env') : dsC N Γ r K ws env h = dsC N Γ r K ws env' h := by rw [he]
@[congr] theorem dsK_congr {K : List Heap → Env → Heap → Prop} {fl : Bool} {wx : List Let} {ws : List Heap} {h' : Heap} {e0 : Env} (he : env = env') : dsK N fl wx ws e0 h K env h' = dsK N fl wx ws e0 h K env' h' := by rw [he]
@[congr] theorem effK_congr {d : Option Nat} {v v' : Value} (e : v = v') (e2 : env = env') : effK K d env v h = effK K d env' v' h := by rw [e, e2]
@[congr] theorem letW_congr {o o' : Option Env} (e : o = o') : letW o K h = letW o' K h := by rw [e]
@[congr] theorem letE_congr {o o' : Option Env} (e : o = o') : letE N Γ x o env h K = letE N Γ x o' env h K := by rw [e]
@[congr] theorem pnewW_congr {o o' : Option UV} (e : o = o') : pnewW i o env h K = pnewW i o' env h K := by rw [e]
@[congr] theorem pstW_congr {o o' : Option UV} (e : o = o') : pstW i o env h K = pstW i o' env h K := by rw [e]
@[congr] theorem argsW_congr {f : Ef} {o o' : Option (List Value)} {K : Value → Heap → Prop} (e : o = o') : argsW N Γ f o h K = argsW N Γ f o' h K := by rw [e]
@[congr] theorem efW_congr {f : Ef} {o o' : List Value} {K : Value → Heap → Prop} (e : o = o') : efW N Γ f o h K = efW N Γ f o' h K := by rw [e]
@[congr] theorem guardW_congr {o o' : Option Bool} {f : Ef} {args : List Ex} {d : Option Nat} (e : o = o') : guardW N Γ o f args d env E h K = guardW N Γ o' f args d env E h K := by rw [e]
@[congr] theorem condW_congr {o o' : Option UV} {a b : St} (e : o = o') : condW N Γ o a b Q env h = condW N Γ o' a b Q env h := by rw [e]
@[congr] theorem valsW_congr {o o' : Option (List Value)} {K : Value → Heap → Prop} (e : o = o') : valsW o K h = valsW o' K h := by rw [e]
@[congr] theorem letG_congr {g g' : Option Bool} {e : Ex} (he : g = g') : letG N g env h i e l E = letG N g' env h i e l E := by rw [he]
@[congr] theorem letV_congr {o o' : Option UV} (he : o = o') : letV N o env h i l E = letV N o' env h i l E := by rw [he]
@[congr] theorem gsS_congr {o o' : Option UV} {w : Bool} {r : List (Ex × Bool)} (he : o = o') : gsS N o w env h r = gsS N o' w env h r := by rw [he]
@[congr] theorem u1_congr {o : O1} {a a' : Option UV} (he : a = a') : u1 N env h o a = u1 N env h o a' := by rw [he]
@[congr] theorem u2_congr {o : O2} {a a' b b' : Option UV} (he : a = a') (hb : b = b') : u2 h o a b = u2 h o a' b' := by rw [he, hb]
@[congr] theorem u3_congr {o : O3} {a a' b b' c c' : Option UV} (he : a = a') (hb : b = b') (hc : c = c') : u3 o a b c = u3 o a' b' c' := by rw [he, hb, hc]
@[congr] theorem o1V_congr {o : O1} {a a' : UV} (he : a = a') : o1V N env h o a = o1V N env h o a' := by rw [he]
@[congr] theorem o2V_congr {o : O2} {a a' b b' : UV} (he : a = a') (hb : b = b') : o2V h o a b = o2V h o a' b' := by rw [he, hb]
@[congr] theorem o3V_congr {o : O3} {a a' b b' c c' : UV} (he : a = a') (hb : b = b') (hc : c = c') : o3V o a b c = o3V o a' b' c' := by rw [he, hb, hc]
end
theorem PS :
    (∀ (N : Num) (Γ : Ctx) Q env h, SW N Γ .skip Q env h = Q .normal env h) ∧
    (∀ (N : Num) (Γ : Ctx) Q env h, SW N Γ .ret Q env h = Q .ret env h) ∧
    (∀ (N : Num) (Γ : Ctx) i Q env h, SW N Γ (.exit i) Q env h = Q (.exit i) env h) ∧
    (∀ (N : Num) (Γ : Ctx) a b Q env h, SW N Γ (.seq a b) Q env h = SW N Γ a (seqK N Γ b Q) env h) ∧
    (∀ (N : Num) (Γ : Ctx) i s Q env h, SW N Γ (.block i s) Q env h = SW N Γ s (blkK i Q) env h) ∧
    (∀ (N : Num) (Γ : Ctx) l Q env h, SW N Γ (.reg l) Q env h = stgsW N Γ l env h (normK Q)) ∧
    (∀ (N : Num) (Γ : Ctx) d Q env h, SW N Γ (.dreg d) Q env h = dsW N Γ d [] env h (normK Q)) ∧
    (∀ (N : Num) (Γ : Ctx) c a b Q env h, SW N Γ (.cond c a b) Q env h = condW N Γ (ev N env h c) a b Q env h) ∧
    (∀ (N : Num) (Γ : Ctx) a b Q env h, condW N Γ (some (.v (.bool true))) a b Q env h = SW N Γ a Q env h) ∧
    (∀ (N : Num) (Γ : Ctx) a b Q env h, condW N Γ (some (.v (.bool false))) a b Q env h = SW N Γ b Q env h) ∧
    (∀ (N : Num) (Γ : Ctx) env h K, stgsW N Γ [] env h K = K env h) ∧
    (∀ (N : Num) (Γ : Ctx) l r env h K, stgsW N Γ (⟨l, none⟩ :: r) env h K = letW (putLets N env h l env) (stgsK N Γ r K) h) ∧
    (∀ (N : Num) (Γ : Ctx) l x r env h K, stgsW N Γ (⟨l, some x⟩ :: r) env h K = letE N Γ x (putLets N env h l env) env h (stgsK N Γ r K)) ∧
    (∀ (N : Num) (Γ : Ctx) l env h K, stgW N Γ ⟨l, none⟩ env h K = letW (putLets N env h l env) K h) ∧
    (∀ (N : Num) (Γ : Ctx) l x env h K, stgW N Γ ⟨l, some x⟩ env h K = letE N Γ x (putLets N env h l env) env h K) ∧
    (∀ e K h, letW (some e) K h = K e h) ∧
    (∀ (N : Num) (Γ : Ctx) x e env h K, letE N Γ x (some e) env h K = eiW N Γ x env e h K) ∧
    (∀ (N : Num) (Γ : Ctx) i e env0 env1 h K, eiW N Γ (.pnew i e) env0 env1 h K = pnewW i (ev N env0 h e) env1 h K) ∧
    (∀ (N : Num) (Γ : Ctx) i e env0 env1 h K, eiW N Γ (.pst i e) env0 env1 h K = pstW i (ev N env0 h e) env1 h K) ∧
    (∀ (N : Num) (Γ : Ctx) f args d env0 env1 h K, eiW N Γ (.ef [] f args d) env0 env1 h K = argsW N Γ f (evVals N env0 h args) h (effK K d env1)) ∧
    (∀ (N : Num) (Γ : Ctx) g gs f args d env0 env1 h K, eiW N Γ (.ef (g :: gs) f args d) env0 env1 h K = guardW N Γ (evGs N env0 h (g :: gs)) f args d env0 env1 h K) ∧
    (∀ (N : Num) (Γ : Ctx) f args d env0 env1 h K, guardW N Γ (some true) f args d env0 env1 h K = argsW N Γ f (evVals N env0 h args) h (effK K d env1)) ∧
    (∀ (N : Num) (Γ : Ctx) f args d env0 env1 h K, guardW N Γ (some false) f args d env0 env1 h K = K (putD env1 d undef) h) ∧
    (∀ i x env1 h K, pnewW i (some (.v x)) env1 h K = K (env1.put i (.agg x.cells)) h) ∧
    (∀ i x env1 h K, pstW i (some (.v x)) env1 h K = K (env1.put i x) h) ∧
    (∀ (N : Num) (Γ : Ctx) f us h K, argsW N Γ f (some us) h K = efW N Γ f us h K) ∧
    (∀ (N : Num) (Γ : Ctx) s ws env h K, dsW N Γ (.done s) ws env h K = stgW N Γ s env h K) ∧
    (∀ (N : Num) (Γ : Ctx) fl wx s r ws env h K, dsW N Γ (.eff fl wx s r) ws env h K = stgW N Γ s env h (dsK N fl wx ws env h (dsC N Γ r K))) ∧
    (∀ (N : Num) (Γ : Ctx) fl wx s r fl' wx' s' r' ws env h K, dsW N Γ (.alt fl wx s r fl' wx' s' r') ws env h K = altW N Γ (.alt fl wx s r fl' wx' s' r') ws env h K) ∧
    (∀ (N : Num) (ws : List Heap) (env : Env) (h : Heap) (K : List Heap → Env → Heap → Prop) env' h', dsK N false [] ws env h K env' h' = K [] env' h') ∧
    (∀ (N : Num) (ws : List Heap) (env : Env) (h : Heap) (K : List Heap → Env → Heap → Prop) env' h', dsK N true [] ws env h K env' h' = leW ws h' (K ws env' h')) ∧
    (∀ (N : Num) (Γ : Ctx) r ws K env h, dsC N Γ r K ws env h = dsW N Γ r ws env h K) ∧
    (∀ Q env h, normK Q env h = Q .normal env h) ∧
    (∀ (N : Num) (Γ : Ctx) r K env h, stgsK N Γ r K env h = stgsW N Γ r env h K) ∧
    (∀ K d env v h, effK K d env v h = K (putD env d v) h) ∧
    (∀ env i v, putD env (some i) v = env.put i v) ∧
    (∀ env v, putD env none v = env) ∧
    (∀ (N : Num) (Γ : Ctx) b Q env h, seqK N Γ b Q .normal env h = SW N Γ b Q env h) ∧
    (∀ (N : Num) (Γ : Ctx) b Q i env h, seqK N Γ b Q (.exit i) env h = Q (.exit i) env h) ∧
    (∀ (N : Num) (Γ : Ctx) b Q env h, seqK N Γ b Q .ret env h = Q .ret env h) ∧
    (∀ i Q env h, blkK i Q .normal env h = Q .normal env h) ∧
    (∀ i Q env h, blkK i Q .ret env h = Q .ret env h) ∧
    (∀ i j (Q : SE → Env → Heap → Prop) env h, blkK i Q (.exit j) env h = if j = i then Q .normal env h else Q (.exit j) env h) ∧
    (∀ (σ : Type) (E : σ → Env) (I : σ → Heap → Prop) m n Q i env h, loopK E I m n Q (.exit i) env h = Q (.exit i) env h) ∧
    (∀ (σ : Type) (E : σ → Env) (I : σ → Heap → Prop) m n Q env h, loopK E I m n Q .ret env h = Q .ret env h) ∧
    (∀ R Q i env h, meetK R Q (.exit i) env h = Q (.exit i) env h) ∧
    (∀ R Q env h, meetK R Q .ret env h = Q .ret env h) ∧
    (∀ (N : Num) res K env h, finK N res K .normal env h = valsW (evVals N env h res) K h) ∧
    (∀ (N : Num) res K env h, finK N res K .ret env h = valsW (evVals N env h res) K h) ∧
    (∀ vs K h, valsW (some vs) K h = K (tup vs) h) ∧
    (∀ v, tup [v] = v) ∧
    (tup [] = .tuple #[]) ∧
    (∀ a b, tup [a, b] = .tuple #[a, b]) ∧
    (∀ a b c, tup [a, b, c] = .tuple #[a, b, c]) ∧
    (∀ a b c d, tup [a, b, c, d] = .tuple #[a, b, c, d]) := by
  refine ⟨?_, ?_, ?_, ?_, ?_, ?_, ?_, ?_, ?_, ?_, ?_, ?_, ?_, ?_, ?_, ?_, ?_, ?_, ?_, ?_, ?_, ?_, ?_, ?_, ?_, ?_, ?_, ?_, ?_, ?_, ?_, ?_, ?_, ?_, ?_, ?_, ?_, ?_, ?_, ?_, ?_, ?_, ?_, ?_, ?_, ?_, ?_, ?_, ?_, ?_, ?_, ?_, ?_, ?_, ?_⟩
  case refine_8 =>
    intro N Γ c a b Q env h
    simp only [SW, condW, eq_iff_iff]
    constructor
    · rintro ⟨t, h1, h2, h3⟩; rw [h1]; cases t <;> simp_all
    · split
      · rename_i h1; intro hx; exact ⟨true, h1, fun _ => hx, (by simp)⟩
      · rename_i h1; intro hx; exact ⟨false, h1, (by simp), fun _ => hx⟩
      · exact False.elim
  case refine_12 =>
    intro N Γ l r env h K
    simp only [stgsW, stgW, letW, eq_iff_iff]
    constructor
    · rintro ⟨e, h1, h2⟩; rw [h1]; exact h2
    · split
      · rename_i h1; intro hx; exact ⟨_, h1, hx⟩
      · exact False.elim
  case refine_13 =>
    intro N Γ l x r env h K
    simp only [stgsW, stgW, letE, eq_iff_iff]
    constructor
    · rintro ⟨e, h1, h2⟩; rw [h1]; exact h2
    · split
      · rename_i h1; intro hx; exact ⟨_, h1, hx⟩
      · exact False.elim
  case refine_14 =>
    intro N Γ l env h K
    simp only [stgW, letW, eq_iff_iff]
    constructor
    · rintro ⟨e, h1, h2⟩; rw [h1]; exact h2
    · split
      · rename_i h1; intro hx; exact ⟨_, h1, hx⟩
      · exact False.elim
  case refine_15 =>
    intro N Γ l x env h K
    simp only [stgW, letE, eq_iff_iff]
    constructor
    · rintro ⟨e, h1, h2⟩; rw [h1]; exact h2
    · split
      · rename_i h1; intro hx; exact ⟨_, h1, hx⟩
      · exact False.elim
  case refine_18 =>
    intro N Γ i e env0 env1 h K
    simp only [eiW, pnewW, eq_iff_iff]
    constructor
    · rintro ⟨v, h1, h2⟩; rw [h1]; exact h2
    · split
      · rename_i h1; intro hx; exact ⟨_, h1, hx⟩
      · exact False.elim
  case refine_19 =>
    intro N Γ i e env0 env1 h K
    simp only [eiW, pstW, eq_iff_iff]
    constructor
    · rintro ⟨v, h1, h2⟩; rw [h1]; exact h2
    · split
      · rename_i h1; intro hx; exact ⟨_, h1, hx⟩
      · exact False.elim
  case refine_20 =>
    intro N Γ f args d env0 env1 h K
    simp only [eiW, argsW, evGs, eq_iff_iff]
    constructor
    · rintro (⟨_, us, h1, h2⟩ | ⟨h1, _⟩)
      · rw [h1]; exact h2
      · cases h1
    · split
      · rename_i h1; intro hx; exact .inl ⟨by trivial, _, h1, hx⟩
      · exact False.elim
  case refine_21 =>
    intro N Γ g gs f args d env0 env1 h K
    simp only [eiW, argsW, guardW, eq_iff_iff]
    constructor
    · rintro (⟨h0, us, h1, h2⟩ | ⟨h1, h2⟩)
      · rw [h0, h1]; exact h2
      · rw [h1]; exact h2
    · split
      · rename_i h0
        rw [h0]
        split
        · rename_i h1; intro hx; exact .inl ⟨rfl, _, h1, hx⟩
        · exact False.elim
      · rename_i h0; intro hx; exact .inr ⟨h0, hx⟩
      · exact False.elim
  case refine_30 => intro N ws env h K env' h'; simp [dsK]
  case refine_31 => intro N ws env h K env' h'; simp [dsK, leW]
  case refine_48 =>
    intro N res K env h
    simp only [finK, valsW, eq_iff_iff]
    constructor
    · rintro ⟨vs, h1, h2⟩; rw [h1]; exact h2
    · split
      · rename_i h1; intro hx; exact ⟨_, h1, hx⟩
      · exact False.elim
  case refine_49 =>
    intro N res K env h
    simp only [finK, valsW, eq_iff_iff]
    constructor
    · rintro ⟨vs, h1, h2⟩; rw [h1]; exact h2
    · split
      · rename_i h1; intro hx; exact ⟨_, h1, hx⟩
      · exact False.elim
  all_goals (intros; rfl)
end Go.Cw
namespace Go.Cw
open Go
def str (l : List UInt8) : ByteArray := ⟨l.toArray⟩
theorem str_data (l : List UInt8) : (str l).data.toList = l := rfl
theorem str_of (s : ByteArray) : str s.data.toList = s := rfl
theorem str_size (l : List UInt8) : (str l).size = l.length := rfl
theorem str_append (a b : List UInt8) : str a ++ str b = str (a ++ b) := by
  apply ByteArray.ext
  simp [str]
theorem ba_toList_loop (s : ByteArray) : ∀ (n i : Nat) (r : List UInt8), n + i = s.size → ByteArray.toList.loop s i r = r.reverse ++ s.data.toList.drop i := by
  intro n
  induction n with
  | zero =>
    intro i r h
    rw [ByteArray.toList.loop]
    have : ¬ i < s.size := by omega
    rw [if_neg this, List.drop_of_length_le (by show s.data.toList.length ≤ i; simp; show s.data.size ≤ i; exact (show s.size ≤ i by omega))]
    simp
  | succ n ih =>
    intro i r h
    rw [ByteArray.toList.loop]
    have hlt : i < s.size := by omega
    have hlt' : i < s.data.toList.length := by simp; exact hlt
    rw [if_pos hlt, ih (i + 1) _ (by omega), List.drop_eq_getElem_cons hlt']
    have : s.get! i = s.data.toList[i] := by
      have hlt2 : i < s.data.size := hlt
      show s.data[i]! = _
      rw [getElem!_pos s.data i hlt2]
      simp
    rw [this]; simp
theorem ba_toList (s : ByteArray) : s.toList = s.data.toList := by
  rw [ByteArray.toList, ba_toList_loop s s.size 0 [] (by omega)]; simp
theorem str_toList (l : List UInt8) : (str l).toList = l := by rw [ba_toList]; rfl
theorem str_get (l : List UInt8) (i : Nat) : (str l).data.getD i 0 = l.getD i 0 := by
  simp [str, Array.getD, List.getD_eq_getElem?_getD]
  split <;> simp_all
theorem str_extract (l : List UInt8) (i j : Nat) : (str l).extract i j = str ((l.take j).drop i) := by
  apply ByteArray.ext
  simp [str, List.extract, List.drop_take]
def ldP (o : Option Value) (off : Nat) : Option UV := match o with
  | some (.agg c) => (c[off]?).map .v
  | _ => none
def ldnP (o : Option Value) (off n : Nat) : Option UV := match o with
  | some (.agg c) => if off + n ≤ c.size then some (.v (.agg (c.extract off (off + n)))) else none
  | _ => none
def agg (l : List Value) : Value := .agg l.toArray
theorem putLets_g (N : Num) (env : Env) (h : Heap) (g : Ex × Bool) (gs : List (Ex × Bool)) (i : Nat) (e : Ex) (r : List Let) (E : Env) : putLets N env h (⟨g :: gs, i, e⟩ :: r) E = letG N (evGs N env h (g :: gs)) env h i e r E := by
  cases hg : evGs N env h (g :: gs) with
  | none => simp only [putLets, hg, letG]
  | some b =>
    have e0 : evGs N env h [] = some true := rfl
    cases b <;> simp only [putLets, hg, letG, e0]
section
variable (N : Num) (env : Env) (h : Heap)
theorem P1 :
    (∀ (N : Num) (env : Env) (h : Heap) i, ev N env h (.var i) = (env.get i).map .v) ∧
    (∀ (N : Num) (env : Env) (h : Heap) i, ev N env h (.cnt i) = (env.get i).map .v) ∧
    (∀ (N : Num) (env : Env) (h : Heap) i, ev N env h (.pad i) = (env.get i).map fun _ => .p i 0) ∧
    (∀ (N : Num) (env : Env) (h : Heap) x, ev N env h (.con x) = some (.v x)) ∧
    (∀ (N : Num) (env : Env) (h : Heap) f, ev N env h (.mkf f) = some (.v (.func (.func (N.fid f)) #[] #[]))) ∧
    (∀ (N : Num) (env : Env) (h : Heap) o a, ev N env h (.o1 o a) = u1 N env h o (ev N env h a)) ∧
    (∀ (N : Num) (env : Env) (h : Heap) o a b, ev N env h (.o2 o a b) = u2 h o (ev N env h a) (ev N env h b)) ∧
    (∀ (N : Num) (env : Env) (h : Heap) o a b c, ev N env h (.o3 o a b c) = u3 o (ev N env h a) (ev N env h b) (ev N env h c)) ∧
    (∀ (N : Num) (env : Env) (h : Heap) c a b, ev N env h (.pick c a b) = pickU (ev N env h c) (ev N env h a) (ev N env h b)) ∧
    (∀ (N : Num) (env : Env) (h : Heap) base i n a v, ev N env h (.upd base i n a v) = updU i n (ev N env h base) (ev N env h a) (ev N env h v)) ∧
    (∀ (N : Num) (env : Env) (h : Heap) o a, u1 N env h o (some a) = o1V N env h o a) ∧
    (∀ (h : Heap) o a b, u2 h o (some a) (some b) = o2V h o a b) ∧
    (∀ o a b c, u3 o (some a) (some b) (some c) = o3V o a b c) ∧
    (∀ a b, pickU (some (.v (.bool true))) a b = a) ∧
    (∀ a b, pickU (some (.v (.bool false))) a b = b) ∧
    (∀ (N : Num) (env : Env) (h : Heap) E, putLets N env h [] E = some E) ∧
    (∀ (N : Num) (env : Env) (h : Heap) i e r E, putLets N env h (⟨[], i, e⟩ :: r) E = letV N (ev N env h e) env h i r E) ∧
    (∀ (N : Num) (env : Env) (h : Heap) g gs i e r E, putLets N env h (⟨g :: gs, i, e⟩ :: r) E = letG N (evGs N env h (g :: gs)) env h i e r E) ∧
    (∀ (N : Num) (env : Env) (h : Heap) x i r E, letV N (some (.v x)) env h i r E = putLets N env h r (E.put i x)) ∧
    (∀ (N : Num) (env : Env) (h : Heap) i e r E, letG N (some true) env h i e r E = putLets N env h (⟨[], i, e⟩ :: r) E) ∧
    (∀ (N : Num) (env : Env) (h : Heap) i e r E, letG N (some false) env h i e r E = putLets N env h r (E.put i undef)) ∧
    (∀ (N : Num) (env : Env) (h : Heap), evGs N env h [] = some true) ∧
    (∀ (N : Num) (env : Env) (h : Heap) e w r, evGs N env h ((e, w) :: r) = gsS N (ev N env h e) w env h r) ∧
    (∀ (N : Num) (env : Env) (h : Heap) r, gsS N (some (.v (.bool true))) true env h r = evGs N env h r) ∧
    (∀ (N : Num) (env : Env) (h : Heap) r, gsS N (some (.v (.bool false))) false env h r = evGs N env h r) ∧
    (∀ (N : Num) (env : Env) (h : Heap) r, gsS N (some (.v (.bool true))) false env h r = some false) ∧
    (∀ (N : Num) (env : Env) (h : Heap) r, gsS N (some (.v (.bool false))) true env h r = some false) ∧
    (∀ (N : Num) (env : Env) (h : Heap) w r, gsS N (some (.v undef)) w env h r = some false) ∧
    (∀ (N : Num) (env : Env) (h : Heap), evVals N env h [] = some []) ∧
    (∀ (N : Num) (env : Env) (h : Heap) e r, evVals N env h (e :: r) = consV (ev N env h e) (evVals N env h r)) ∧
    (∀ x xs, consV (some (.v x)) (some xs) = some (x :: xs)) ∧
    (∀ v (e : Env), Env.get (v :: e) 0 = v) ∧
    (∀ v (e : Env) i, Env.get (v :: e) (i + 1) = Env.get e i) ∧
    (∀ v (e : Env) x, Env.put (v :: e) 0 x = some x :: e) ∧
    (∀ v (e : Env) i x, Env.put (v :: e) (i + 1) x = v :: Env.put e i x) := by
  and_intros
  all_goals (intros; first | rfl | exact putLets_g .. | (simp only [evGs]; rfl) | (simp only [evGs, gsS]; split <;> simp_all; done) | (simp only [evVals, consV]; done) | (simp [gsS, Env.get]; done))
theorem P2 :
    (∀ (N : Num) (env : Env) (h : Heap) s, o1V N env h .slen (.v (.string s)) = some (.v (.int .i64 s.size))) ∧
    (∀ (N : Num) (env : Env) (h : Heap) a n c, o1V N env h .llen (.v (.slice a n c)) = some (.v (.int .i64 n))) ∧
    (∀ (N : Num) (env : Env) (h : Heap) d a, o1V N env h (.fadr d) (.v (.pointer (some a))) = some (.v (.pointer (some (a.add d))))) ∧
    (∀ (N : Num) (env : Env) (h : Heap) d i off, o1V N env h (.fadr d) (.p i off) = some (.p i (off + d))) ∧
    (∀ (N : Num) (env : Env) (h : Heap) a, o1V N env h .ld (.v (.pointer (some a))) = (h.cell a).map .v) ∧
    (∀ (N : Num) (env : Env) (h : Heap) n a, o1V N env h (.ldn n) (.v (.pointer (some a))) = (h.row a n).map fun c => .v (.agg c)) ∧
    (∀ (N : Num) (env : Env) (h : Heap) i off, o1V N env h .ld (.p i off) = ldP (env.get i) off) ∧
    (∀ (N : Num) (env : Env) (h : Heap) n i off, o1V N env h (.ldn n) (.p i off) = ldnP (env.get i) off n) ∧
    (∀ (c : Array Value) off, ldP (some (.agg c)) off = (c[off]?).map .v) ∧
    (∀ (c : Array Value) off n, ldnP (some (.agg c)) off n = if off + n ≤ c.size then some (.v (.agg (c.extract off (off + n)))) else none) ∧
    (∀ (N : Num) (env : Env) (h : Heap) a, o1V N env h .nilck (.v (.pointer (some a))) = some (.v (.pointer (some a)))) ∧
    (∀ (N : Num) (env : Env) (h : Heap) i off, o1V N env h .nilck (.p i off) = some (.p i off)) ∧
    (∀ (N : Num) (env : Env) (h : Heap) f a b, o1V N env h .nilck (.v (.func (.func f) a b)) = some (.v (.func (.func f) a b))) ∧
    (∀ (N : Num) (env : Env) (h : Heap) b, o1V N env h .not (.v (.bool b)) = some (.v (.bool (!b)))) ∧
    (∀ (N : Num) (env : Env) (h : Heap) k n, o1V N env h .neg (.v (.int k n)) = some (.v (.int k (k.wrap (0 - n))))) ∧
    (∀ (N : Num) (env : Env) (h : Heap) k k' n, o1V N env h (.conv k) (.v (.int k' n)) = some (.v (.int k (k.wrap n)))) ∧
    (∀ (N : Num) (env : Env) (h : Heap) k (l : List Value), o1V N env h (.ext k) (.v (.tuple l.toArray)) = (l[k]?).map .v) ∧
    (∀ (N : Num) (env : Env) (h : Heap) k (l : List Value), o1V N env h (.fld k) (.v (.agg l.toArray)) = (l[k]?).map .v) ∧
    (∀ (N : Num) (env : Env) (h : Heap) k n (l : List Value), o1V N env h (.fldn k n) (.v (.agg l.toArray)) = some (.v (.agg ((l.drop k).take n).toArray))) ∧
    (∀ (N : Num) (env : Env) (h : Heap) t x, o1V N env h (.iface t) (.v x) = some (.v (.iface (N.tid t) x))) ∧
    (∀ (N : Num) (env : Env) (h : Heap) t z u y, o1V N env h (.tas t z) (.v (.iface u y)) = if u = N.tid t then some (.v (.tuple #[y, .bool true])) else some (.v (.tuple #[z, .bool false]))) ∧
    (∀ (N : Num) (env : Env) (h : Heap) t z, o1V N env h (.tas t z) (.v .nilIface) = some (.v (.tuple #[z, .bool false]))) ∧
    (∀ (N : Num) (env : Env) (h : Heap) k n, o1V N env h .inv (.v (.int k n)) = some (.v (.int k (k.wrap (BitVec.ofInt k.bits (if k.signed then -1 else k.max) ^^^ BitVec.ofInt k.bits n).toNat)))) := by
  and_intros
  all_goals (intros; first | rfl | (simp [o1V, List.extract]; done))
theorem P3 :
    (∀ (h : Heap) op x y, o2V h (.bin op) (.v x) (.v y) = (binV op x y).map .v) ∧
    (∀ (h : Heap) size a (len : Nat) cap k n, 0 ≤ n → n < (len : Int) → o2V h (.iadr size) (.v (.slice (some a) len cap)) (.v (.int k n)) = some (.v (.pointer (some (a.add (n.toNat * size)))))) ∧
    (∀ (h : Heap) (len : Nat) size a k n, 0 ≤ n → n < (len : Int) → o2V h (.aadr len size) (.v (.pointer (some a))) (.v (.int k n)) = some (.v (.pointer (some (a.add (n.toNat * size)))))) ∧
    (∀ (h : Heap) (len : Nat) size i off k n, 0 ≤ n → n < (len : Int) → o2V h (.aadr len size) (.p i off) (.v (.int k n)) = some (.p i (off + n.toNat * size))) ∧
    (∀ (h : Heap) l k n, 0 ≤ n → n < (l.length : Int) → o2V h .sidx (.v (.string (str l))) (.v (.int k n)) = some (.v (.int .u8 (l.getD n.toNat 0).toNat))) ∧
    (∀ (h : Heap) (len : Nat) (c : Array Value) k n, 0 ≤ n → n < (len : Int) → o2V h (.vidx len) (.v (.agg c)) (.v (.int k n)) = (c[n.toNat]?).map .v) ∧
    (∀ (h : Heap) (len : Nat) size (c : Array Value) k n, 0 ≤ n → n < (len : Int) → o2V h (.vidxn len size) (.v (.agg c)) (.v (.int k n)) = some (.v (.agg (c.extract (n.toNat * size) (n.toNat * size + size))))) ∧
    (∀ (h : Heap) k a b k', o2V h .max (.v (.int k a)) (.v (.int k' b)) = some (.v (.int k (max a b)))) ∧
    (∀ (h : Heap) k a b k', o2V h .min (.v (.int k a)) (.v (.int k' b)) = some (.v (.int k (min a b)))) ∧
    (∀ (h : Heap) off n (c : Array Value) y, o2V h (.bput off n) (.v (.agg c)) (.v y) = if y.cells.size = n ∧ off + n ≤ c.size then some (.v (.agg (putL c off y.cells.toList))) else none) ∧
    (∀ (h : Heap) fn first cs y, o2V h .capp (.v (.func fn first cs)) (.v y) = some (.v (.func fn first (cs.push y)))) ∧
    (∀ l k k' lo hi, 0 ≤ lo → lo ≤ hi → hi ≤ (l.length : Int) → o3V .ssl (.v (.string (str l))) (.v (.int k lo)) (.v (.int k' hi)) = some (.v (.string (str ((l.take hi.toNat).drop lo.toNat))))) := by
  have ib : ∀ (n : Int) (m : Nat), 0 ≤ n → n < (m : Int) → inBounds n m = true := by intro n m h1 h2; simp [inBounds, h1, h2]
  and_intros
  all_goals first
    | (intros; rfl)
    | (intro h size a len cap k n h1 h2; simp only [o2V, ib n len h1 h2, if_true]; done)
    | (intro h len size a k n h1 h2; simp only [o2V, ib n len h1 h2, if_true]; done)
    | (intro h len size i off k n h1 h2; simp only [o2V, ib n len h1 h2, if_true]; done)
    | (intro h len c k n h1 h2; simp only [o2V, ib n len h1 h2, if_true]; done)
    | (intro h len size c k n h1 h2; simp only [o2V, ib n len h1 h2, if_true]; done)
    | (intro h l k n h1 h2; have := ib n l.length h1 h2; simp only [o2V, str_size, this, if_true, str_get]; done)
    | (intro h k a b k'; simp only [o2V]; congr 3; rw [Int.max_def]; split <;> split <;> omega)
    | (intro h k a b k'; simp only [o2V]; congr 3; rw [Int.min_def]; split <;> split <;> omega)
    | (intro l k k' lo hi h1 h2 h3; simp only [o3V, str_size, h1, h2, h3, and_self, if_true, str_extract]; done)
theorem P4 : (∀ k a b, binV .add (.int k a) (.int k b) = some (.int k (k.wrap (a + b)))) ∧ (∀ k a b, binV .sub (.int k a) (.int k b) = some (.int k (k.wrap (a - b)))) ∧ (∀ k a b, binV .mul (.int k a) (.int k b) = some (.int k (k.wrap (a * b)))) ∧
    (∀ k a b, b ≠ 0 → binV .quo (.int k a) (.int k b) = some (.int k (k.wrap (a.tdiv b)))) ∧ (∀ k a b, b ≠ 0 → binV .rem (.int k a) (.int k b) = some (.int k (a.tmod b))) ∧
    (∀ k a b, binV .eql (.int k a) (.int k b) = some (.bool (decide (a = b)))) ∧ (∀ k a b, binV .neq (.int k a) (.int k b) = some (.bool (decide (a ≠ b)))) ∧
    (∀ k a b, binV .lss (.int k a) (.int k b) = some (.bool (decide (a < b)))) ∧ (∀ k a b, binV .leq (.int k a) (.int k b) = some (.bool (decide (a ≤ b)))) ∧
    (∀ k a b, binV .gtr (.int k a) (.int k b) = some (.bool (decide (b < a)))) ∧ (∀ k a b, binV .geq (.int k a) (.int k b) = some (.bool (decide (b ≤ a)))) ∧
    (∀ a b, a.length + b.length ≤ 9223372036854775807 → binV .add (.string (str a)) (.string (str b)) = some (.string (str (a ++ b)))) ∧
    (∀ a b, binV .eql (.string (str a)) (.string (str b)) = some (.bool (decide (a = b)))) ∧ (∀ a b, binV .neq (.string (str a)) (.string (str b)) = some (.bool (decide (a ≠ b)))) ∧
    (∀ a b, binV .lss (.string (str a)) (.string (str b)) = some (.bool (Op.bytesLess a b))) ∧
    (∀ p q : Bool, pickU (some (.v (.bool p))) (some (.v (.bool true))) (some (.v (.bool q))) = some (.v (.bool (p || q)))) ∧
    (∀ p q : Bool, pickU (some (.v (.bool p))) (some (.v (.bool q))) (some (.v (.bool false))) = some (.v (.bool (p && q)))) ∧
    (∀ (p q : Prop) [Decidable p] [Decidable q], (decide p || decide q) = decide (p ∨ q)) ∧ (∀ (p q : Prop) [Decidable p] [Decidable q], (decide p && decide q) = decide (p ∧ q)) ∧
    (∀ (p : Prop) [Decidable p], (!decide p) = decide (¬ p)) ∧ (∀ b : Bool, (false || b) = b) ∧ (∀ b : Bool, (b || false) = b) ∧ (∀ b : Bool, (true || b) = true) ∧ (∀ b : Bool, (b || true) = true) ∧ (∀ b : Bool, (false && b) = false) ∧ (∀ b : Bool, (b && false) = false) ∧ (∀ b : Bool, (true && b) = b) ∧ (∀ b : Bool, (b && true) = b) ∧
    (∀ a off, putL a off [] = a) ∧ (∀ a off v r, putL a off (v :: r) = putL (a.setIfInBounds off v) (off + 1) r) := by
  and_intros
  all_goals first
    | (intros; rfl)
    | (intro k a b; simp [binV, intV]; done)
    | (intro k a b; simp only [binV, intV, if_true]; rfl)
    | (intro k a b; simp only [binV, intV, if_true]; congr 2; rw [Bool.eq_iff_iff]; simp; done)
    | (intro k a b; simp only [binV, intV, if_true, bne]; congr 2; rw [Bool.eq_iff_iff]; simp; done)
    | (intro k a b h1; simp only [binV, intV, h1, if_true, if_false]; done)
    | (intro a b h1; simp only [binV, strV, str_size, h1, if_true, str_append]; done)
    | (intro a b; simp [binV, strV, str_toList]; done)
    | (intro a b; simp only [binV, strV, str_toList]; congr 2; rw [Bool.eq_iff_iff]; simp; done)
    | (intro p q; cases p <;> rfl)
    | (intro b; cases b <;> rfl)
    | (intro p q _ _; simp; done)
    | (intro p _; simp; done)
theorem P7 : (∀ h, o2V h (.eqv .iface true) (.v .nilIface) (.v .nilIface) = some (.v (.bool false))) ∧ (∀ h, o2V h (.eqv .iface false) (.v .nilIface) (.v .nilIface) = some (.v (.bool true))) ∧
    (∀ h t x, o2V h (.eqv .iface true) (.v (.iface t x)) (.v .nilIface) = some (.v (.bool true))) ∧ (∀ h t x, o2V h (.eqv .iface false) (.v (.iface t x)) (.v .nilIface) = some (.v (.bool false))) ∧
    (∀ h, o2V h (.eqv .ptr true) (.v (.pointer none)) (.v (.pointer none)) = some (.v (.bool false))) ∧ (∀ h, o2V h (.eqv .ptr false) (.v (.pointer none)) (.v (.pointer none)) = some (.v (.bool true))) ∧
    (∀ h a, o2V h (.eqv .ptr true) (.v (.pointer (some a))) (.v (.pointer none)) = some (.v (.bool true))) ∧ (∀ h a, o2V h (.eqv .ptr false) (.v (.pointer (some a))) (.v (.pointer none)) = some (.v (.bool false))) ∧
    (∀ h, o2V h (.eqv .map true) (.v (.map none)) (.v (.map none)) = some (.v (.bool false))) ∧ (∀ h, o2V h (.eqv .map false) (.v (.map none)) (.v (.map none)) = some (.v (.bool true))) ∧
    (∀ h a, o2V h (.eqv .map true) (.v (.map (some a))) (.v (.map none)) = some (.v (.bool true))) ∧ (∀ h a, o2V h (.eqv .map false) (.v (.map (some a))) (.v (.map none)) = some (.v (.bool false))) ∧
    (∀ h a n c m k, o2V h (.eqv .slice true) (.v (.slice a n c)) (.v (.slice none m k)) = some (.v (.bool a.isSome))) ∧ (∀ h a n c m k, o2V h (.eqv .slice false) (.v (.slice a n c)) (.v (.slice none m k)) = some (.v (.bool a.isNone))) ∧
    (∀ h a b, o2V h (.eqv .bool true) (.v (.bool a)) (.v (.bool b)) = some (.v (.bool (decide (a ≠ b))))) ∧ (∀ h a b, o2V h (.eqv .bool false) (.v (.bool a)) (.v (.bool b)) = some (.v (.bool (decide (a = b))))) := by
  and_intros
  all_goals first
    | (intros; rfl)
    | (intro h a n c m k; cases a <;> rfl)
    | (intro h a b; cases a <;> cases b <;> rfl)
theorem P8 : (∀ c, Value.cells (.agg c) = c) ∧ (∀ k n, Value.cells (.int k n) = #[.int k n]) ∧ (∀ s, Value.cells (.string s) = #[.string s]) ∧ (∀ b, Value.cells (.bool b) = #[.bool b]) ∧ (∀ a, Value.cells (.pointer a) = #[.pointer a]) ∧
    (∀ a n c, Value.cells (.slice a n c) = #[.slice a n c]) ∧ (∀ m, Value.cells (.map m) = #[.map m]) ∧ (Value.cells .nilIface = #[.nilIface]) ∧ (∀ t x, Value.cells (.iface t x) = #[.iface t x]) ∧ (∀ f a c, Value.cells (.func f a c) = #[.func f a c]) ∧
    (∀ k n, one (.int k n) = true) ∧ (∀ s, one (.string s) = true) ∧ (∀ b, one (.bool b) = true) ∧ (∀ a, one (.pointer a) = true) ∧ (∀ a n c, one (.slice a n c) = true) ∧ (∀ m, one (.map m) = true) ∧ (one .nilIface = true) ∧ (∀ t x, one (.iface t x) = true) ∧ (∀ f a c, one (.func f a c) = true) := by
  and_intros
  all_goals (intros; rfl)
theorem w64 {n : Int} (h1 : -9223372036854775808 ≤ n) (h2 : n ≤ 9223372036854775807) : IntKind.i64.wrap n = n := IntWalk.i64_in n ⟨h1, h2⟩
theorem P5 : (∀ (i k : Nat), i + k ≤ 9223372036854775807 → IntKind.i64.wrap ((i : Int) + (k : Int)) = ((i + k : Nat) : Int)) ∧
    (∀ (i k : Nat), k ≤ i → i ≤ 9223372036854775807 → IntKind.i64.wrap ((i : Int) - (k : Int)) = ((i - k : Nat) : Int)) ∧
    (∀ (i : Nat), i ≤ 9223372036854775807 → IntKind.i64.wrap (i : Int) = (i : Int)) ∧
    (∀ (i : Nat), i + 1 ≤ 9223372036854775807 → IntKind.i64.wrap ((i : Int) + 1) = ((i + 1 : Nat) : Int)) ∧
    (∀ (i : Nat), 1 + i ≤ 9223372036854775807 → IntKind.i64.wrap (1 + (i : Int)) = ((1 + i : Nat) : Int)) ∧
    (∀ (i : Nat), 1 ≤ i → i ≤ 9223372036854775807 → IntKind.i64.wrap ((i : Int) - 1) = ((i - 1 : Nat) : Int)) ∧
    (∀ (i : Nat), i * 1 ≤ 9223372036854775807 → IntKind.i64.wrap ((i : Int) * 1) = ((i * 1 : Nat) : Int)) ∧
    (∀ (i : Nat), 1 * i ≤ 9223372036854775807 → IntKind.i64.wrap (1 * (i : Int)) = ((1 * i : Nat) : Int)) ∧
    (∀ (i : Nat), i + 2 ≤ 9223372036854775807 → IntKind.i64.wrap ((i : Int) + 2) = ((i + 2 : Nat) : Int)) ∧
    (∀ (i : Nat), 2 + i ≤ 9223372036854775807 → IntKind.i64.wrap (2 + (i : Int)) = ((2 + i : Nat) : Int)) ∧
    (∀ (i : Nat), 2 ≤ i → i ≤ 9223372036854775807 → IntKind.i64.wrap ((i : Int) - 2) = ((i - 2 : Nat) : Int)) ∧
    (∀ (i : Nat), i * 2 ≤ 9223372036854775807 → IntKind.i64.wrap ((i : Int) * 2) = ((i * 2 : Nat) : Int)) ∧
    (∀ (i : Nat), 2 * i ≤ 9223372036854775807 → IntKind.i64.wrap (2 * (i : Int)) = ((2 * i : Nat) : Int)) ∧
    (∀ (i : Nat), i + 3 ≤ 9223372036854775807 → IntKind.i64.wrap ((i : Int) + 3) = ((i + 3 : Nat) : Int)) ∧
    (∀ (i : Nat), 3 + i ≤ 9223372036854775807 → IntKind.i64.wrap (3 + (i : Int)) = ((3 + i : Nat) : Int)) ∧
    (∀ (i : Nat), 3 ≤ i → i ≤ 9223372036854775807 → IntKind.i64.wrap ((i : Int) - 3) = ((i - 3 : Nat) : Int)) ∧
    (∀ (i : Nat), i * 3 ≤ 9223372036854775807 → IntKind.i64.wrap ((i : Int) * 3) = ((i * 3 : Nat) : Int)) ∧
    (∀ (i : Nat), 3 * i ≤ 9223372036854775807 → IntKind.i64.wrap (3 * (i : Int)) = ((3 * i : Nat) : Int)) ∧
    (∀ (i : Nat), i + 4 ≤ 9223372036854775807 → IntKind.i64.wrap ((i : Int) + 4) = ((i + 4 : Nat) : Int)) ∧
    (∀ (i : Nat), 4 + i ≤ 9223372036854775807 → IntKind.i64.wrap (4 + (i : Int)) = ((4 + i : Nat) : Int)) ∧
    (∀ (i : Nat), 4 ≤ i → i ≤ 9223372036854775807 → IntKind.i64.wrap ((i : Int) - 4) = ((i - 4 : Nat) : Int)) ∧
    (∀ (i : Nat), i * 4 ≤ 9223372036854775807 → IntKind.i64.wrap ((i : Int) * 4) = ((i * 4 : Nat) : Int)) ∧
    (∀ (i : Nat), 4 * i ≤ 9223372036854775807 → IntKind.i64.wrap (4 * (i : Int)) = ((4 * i : Nat) : Int)) ∧
    (∀ (i : Nat), i + 5 ≤ 9223372036854775807 → IntKind.i64.wrap ((i : Int) + 5) = ((i + 5 : Nat) : Int)) ∧
    (∀ (i : Nat), 5 + i ≤ 9223372036854775807 → IntKind.i64.wrap (5 + (i : Int)) = ((5 + i : Nat) : Int)) ∧
    (∀ (i : Nat), 5 ≤ i → i ≤ 9223372036854775807 → IntKind.i64.wrap ((i : Int) - 5) = ((i - 5 : Nat) : Int)) ∧
    (∀ (i : Nat), i * 5 ≤ 9223372036854775807 → IntKind.i64.wrap ((i : Int) * 5) = ((i * 5 : Nat) : Int)) ∧
    (∀ (i : Nat), 5 * i ≤ 9223372036854775807 → IntKind.i64.wrap (5 * (i : Int)) = ((5 * i : Nat) : Int)) ∧
    (∀ (i : Nat), i + 7 ≤ 9223372036854775807 → IntKind.i64.wrap ((i : Int) + 7) = ((i + 7 : Nat) : Int)) ∧
    (∀ (i : Nat), 7 + i ≤ 9223372036854775807 → IntKind.i64.wrap (7 + (i : Int)) = ((7 + i : Nat) : Int)) ∧
    (∀ (i : Nat), 7 ≤ i → i ≤ 9223372036854775807 → IntKind.i64.wrap ((i : Int) - 7) = ((i - 7 : Nat) : Int)) ∧
    (∀ (i : Nat), i * 7 ≤ 9223372036854775807 → IntKind.i64.wrap ((i : Int) * 7) = ((i * 7 : Nat) : Int)) ∧
    (∀ (i : Nat), 7 * i ≤ 9223372036854775807 → IntKind.i64.wrap (7 * (i : Int)) = ((7 * i : Nat) : Int)) ∧
    (∀ (i : Nat), i + 8 ≤ 9223372036854775807 → IntKind.i64.wrap ((i : Int) + 8) = ((i + 8 : Nat) : Int)) ∧
    (∀ (i : Nat), 8 + i ≤ 9223372036854775807 → IntKind.i64.wrap (8 + (i : Int)) = ((8 + i : Nat) : Int)) ∧
    (∀ (i : Nat), 8 ≤ i → i ≤ 9223372036854775807 → IntKind.i64.wrap ((i : Int) - 8) = ((i - 8 : Nat) : Int)) ∧
    (∀ (i : Nat), i * 8 ≤ 9223372036854775807 → IntKind.i64.wrap ((i : Int) * 8) = ((i * 8 : Nat) : Int)) ∧
    (∀ (i : Nat), 8 * i ≤ 9223372036854775807 → IntKind.i64.wrap (8 * (i : Int)) = ((8 * i : Nat) : Int)) ∧
    (∀ (i : Nat), i + 10 ≤ 9223372036854775807 → IntKind.i64.wrap ((i : Int) + 10) = ((i + 10 : Nat) : Int)) ∧
    (∀ (i : Nat), 10 + i ≤ 9223372036854775807 → IntKind.i64.wrap (10 + (i : Int)) = ((10 + i : Nat) : Int)) ∧
    (∀ (i : Nat), 10 ≤ i → i ≤ 9223372036854775807 → IntKind.i64.wrap ((i : Int) - 10) = ((i - 10 : Nat) : Int)) ∧
    (∀ (i : Nat), i * 10 ≤ 9223372036854775807 → IntKind.i64.wrap ((i : Int) * 10) = ((i * 10 : Nat) : Int)) ∧
    (∀ (i : Nat), 10 * i ≤ 9223372036854775807 → IntKind.i64.wrap (10 * (i : Int)) = ((10 * i : Nat) : Int)) ∧
    (∀ (i : Nat), i + 11 ≤ 9223372036854775807 → IntKind.i64.wrap ((i : Int) + 11) = ((i + 11 : Nat) : Int)) ∧
    (∀ (i : Nat), 11 + i ≤ 9223372036854775807 → IntKind.i64.wrap (11 + (i : Int)) = ((11 + i : Nat) : Int)) ∧
    (∀ (i : Nat), 11 ≤ i → i ≤ 9223372036854775807 → IntKind.i64.wrap ((i : Int) - 11) = ((i - 11 : Nat) : Int)) ∧
    (∀ (i : Nat), i * 11 ≤ 9223372036854775807 → IntKind.i64.wrap ((i : Int) * 11) = ((i * 11 : Nat) : Int)) ∧
    (∀ (i : Nat), 11 * i ≤ 9223372036854775807 → IntKind.i64.wrap (11 * (i : Int)) = ((11 * i : Nat) : Int)) ∧
    (∀ (i : Nat), i + 12 ≤ 9223372036854775807 → IntKind.i64.wrap ((i : Int) + 12) = ((i + 12 : Nat) : Int)) ∧
    (∀ (i : Nat), 12 + i ≤ 9223372036854775807 → IntKind.i64.wrap (12 + (i : Int)) = ((12 + i : Nat) : Int)) ∧
    (∀ (i : Nat), 12 ≤ i → i ≤ 9223372036854775807 → IntKind.i64.wrap ((i : Int) - 12) = ((i - 12 : Nat) : Int)) ∧
    (∀ (i : Nat), i * 12 ≤ 9223372036854775807 → IntKind.i64.wrap ((i : Int) * 12) = ((i * 12 : Nat) : Int)) ∧
    (∀ (i : Nat), 12 * i ≤ 9223372036854775807 → IntKind.i64.wrap (12 * (i : Int)) = ((12 * i : Nat) : Int)) ∧
    (∀ (i : Nat), i + 16 ≤ 9223372036854775807 → IntKind.i64.wrap ((i : Int) + 16) = ((i + 16 : Nat) : Int)) ∧
    (∀ (i : Nat), 16 + i ≤ 9223372036854775807 → IntKind.i64.wrap (16 + (i : Int)) = ((16 + i : Nat) : Int)) ∧
    (∀ (i : Nat), 16 ≤ i → i ≤ 9223372036854775807 → IntKind.i64.wrap ((i : Int) - 16) = ((i - 16 : Nat) : Int)) ∧
    (∀ (i : Nat), i * 16 ≤ 9223372036854775807 → IntKind.i64.wrap ((i : Int) * 16) = ((i * 16 : Nat) : Int)) ∧
    (∀ (i : Nat), 16 * i ≤ 9223372036854775807 → IntKind.i64.wrap (16 * (i : Int)) = ((16 * i : Nat) : Int)) := by
  and_intros
  all_goals first | (intros; rw [w64 (by omega) (by omega)]; done) | (intros; rw [w64 (by omega) (by omega)]; first | rfl | omega)
theorem P6 {α : Type} : (∀ (a : α) (l : List α), (a :: l).toArray[0]? = some a) ∧ (∀ (a : α) (l : List α) (i : Nat), (a :: l).toArray[i + 1]? = l.toArray[i]?) ∧
    (∀ (a : α) (l : List α), (a :: l)[0]? = some a) ∧ (∀ (a : α) (l : List α) (i : Nat), (a :: l)[i + 1]? = l[i]?) ∧
    (∀ (l : List α) (i : Nat) (v : α), l.toArray.setIfInBounds i v = (l.set i v).toArray) ∧ (∀ (a : α) (l : List α) (v : α), (a :: l).set 0 v = v :: l) ∧ (∀ (a : α) (l : List α) (i : Nat) (v : α), (a :: l).set (i + 1) v = a :: l.set i v) ∧
    (∀ (l : List α) (a b : Nat), l.toArray.extract a b = ((l.drop a).take (b - a)).toArray) ∧ (∀ (l : List α), l.drop 0 = l) ∧ (∀ (a : α) (l : List α) (i : Nat), (a :: l).drop (i + 1) = l.drop i) ∧
    (∀ (l : List α), l.take 0 = []) ∧ (∀ (a : α) (l : List α) (i : Nat), (a :: l).take (i + 1) = a :: l.take i) ∧ (∀ i, ([] : List α).take i = []) ∧
    (∀ (l : List α), l.toArray.size = l.length) ∧ (∀ (a : α) (l : List α), (a :: l).length = l.length + 1) ∧ ([] : List α).length = 0 ∧ (∀ (l : List α), l.toArray.toList = l) := by
  and_intros
  all_goals (intros; first | rfl | (simp; done) | (simp [List.extract]; done))
theorem PA {α : Type} : (∀ a : α, (a ≠ a) = False) ∧ (∀ a : α, (a = a) = True) ∧ (∀ a : α, (some a).isSome = true) ∧ ((none : Option α).isSome = false) ∧ (∀ a d : α, (some a).getD d = a) ∧ (∀ d : α, (none : Option α).getD d = d) ∧
    (∀ (h : Decidable True) (a b : α), @ite α True h a b = a) ∧ (∀ (h : Decidable False) (a b : α), @ite α False h a b = b) ∧
    (∀ (p : α → Bool) a l, (a :: l).all p = (p a && l.all p)) ∧ (∀ (p : α → Bool), ([] : List α).all p = true) := by
  and_intros
  all_goals (intros; first | rfl | (simp; done))
theorem PB {α β : Type} : (∀ (f : α → β) a, Option.map f (some a) = some (f a)) ∧ (∀ (f : α → β), Option.map f none = none) ∧ (∀ (f : α → Option β) a, Option.bind (some a) f = f a) := by
  and_intros
  all_goals (intros; rfl)
theorem PC : (∀ l, (str l).size = l.length) ∧ (∀ l : List UInt8, (⟨l.toArray⟩ : ByteArray) = str l) ∧ (ByteArray.empty = str []) ∧ ((false = true) = False) ∧
    (∀ h : Decidable True, @decide True h = true) ∧ (∀ h : Decidable False, @decide False h = false) ∧ (∀ n : Nat, (n : Int).toNat = n) ∧ (∀ n : Nat, 0 + n = n) ∧ (∀ n : Nat, n + 0 = n) ∧ (∀ n : Nat, 0 * n = 0) ∧ (∀ n : Nat, n * 1 = n) ∧ (∀ n : Nat, 1 * n = n) ∧
    (∀ p, (p ∧ True) = p) ∧ (∀ p, (True ∧ p) = p) ∧ (∀ p, (p ∧ p) = p) ∧ (∀ p, (False ∨ p) = p) ∧ (∀ p, (p ∨ False) = p) ∧ (∀ p, (True ∨ p) = True) ∧ (∀ p, (p ∨ True) = True) ∧ (∀ p, (False ∧ p) = False) ∧ (∀ p, (p ∧ False) = False) ∧
    ((¬ True) = False) ∧ ((¬ False) = True) ∧ ((!true) = false) ∧ ((!false) = true) ∧
    (∀ i n (c : Array Value) j off x, updU i n (some (.v (.agg c))) (some (.p j off)) (some (.v x)) = if j = i ∧ x.cells.size = n ∧ off + n ≤ c.size ∧ x.cells.toList.all one = true then some (.v (.agg (putL c off x.cells.toList))) else none) ∧
    (∀ n : Nat, (n = n) = True) := by
  and_intros
  all_goals (intros; first | rfl | (simp; done))
theorem PL {α : Type} : (∀ l m : List α, (l ++ m).length = l.length + m.length) ∧ (∀ (a : α) l, (a :: l).length = l.length + 1) ∧ (([] : List α).length = 0) ∧ (∀ (l : List α) i, (l.take i).length = min i l.length) ∧ (∀ (l : List α) i, (l.drop i).length = l.length - i) := by
  and_intros
  all_goals (intros; simp)
end
end Go.Cw
namespace Go.Cw
open Go
def rowAt (h : Heap) (a : Addr) (cs : List Value) : Prop :=
  a.spot = none ∧ ∃ c t fz, h a.block = some (.cells c t fz) ∧ a.off + cs.length ≤ c.size ∧ ∀ i, i < cs.length → c[a.off + i]? = cs[i]?
def Sl {α : Type} (enc : α → List Value) (h : Heap) (v : Value) (l : List α) : Prop :=
  ∃ a cap, v = .slice a l.length cap ∧ l.length ≤ cap ∧ (l = [] ∨ ∃ g, a = some g ∧ rowAt h g (l.flatMap enc))
theorem rowAt.le {h h' : Heap} (hl : Heap.le h h') {a : Addr} {cs : List Value} (hr : rowAt h a cs) : rowAt h' a cs := by
  obtain ⟨h1, c, t, fz, h2, h3, h4⟩ := hr
  exact ⟨h1, c, t, fz, hl _ _ h2, h3, h4⟩
theorem Sl.le {α : Type} {enc : α → List Value} {h h' : Heap} (hl : Heap.le h h') {v : Value} {l : List α} (hs : Sl enc h v l) : Sl enc h' v l := by
  obtain ⟨a, cap, h1, h2, h3⟩ := hs
  exact ⟨a, cap, h1, h2, h3.imp id fun ⟨g, h4, h5⟩ => ⟨g, h4, h5.le hl⟩⟩
theorem addr_add' (a : Addr) (hs : a.spot = none) (n : Nat) : a.add n = ⟨a.block, a.off + n, none⟩ := by
  obtain ⟨b, o, s⟩ := a
  simp only at hs
  subst hs
  unfold Addr.add
  split
  · rename_i h0; simp [h0]
  · rfl
theorem rowAt.cell {h : Heap} {a : Addr} {cs : List Value} (hr : rowAt h a cs) {i : Nat} (hi : i < cs.length) : h.cell (a.add i) = some cs[i] := by
  obtain ⟨h1, c, t, fz, h2, h3, h4⟩ := hr
  rw [addr_add' a h1]
  simp [Heap.cell, Heap.cells, h2, h4 i hi, hi]
theorem rowAt.row {h : Heap} {a : Addr} {cs : List Value} (hr : rowAt h a cs) {i n : Nat} (hi : i + n ≤ cs.length) : h.row (a.add i) n = some ((cs.drop i).take n).toArray := by
  obtain ⟨h1, c, t, fz, h2, h3, h4⟩ := hr
  rw [addr_add' a h1]
  have hle : a.off + i + n ≤ c.size := by omega
  by_cases hn0 : n = 0
  · subst hn0; simp [Heap.row]
  simp only [Heap.row, hn0, Heap.cells, h2, Option.isSome_none, Bool.false_eq_true, if_false, Option.bind_some, hle, if_true, Option.some.injEq]
  apply Array.ext
  · simp; omega
  · intro j h5 h6
    have hj : j < n := by simp at h5; omega
    have h7 := h4 (i + j) (by omega)
    have h8 : a.off + i + j < c.size := by omega
    have h9 : i + j < cs.length := by omega
    rw [show a.off + (i + j) = a.off + i + j by omega, Array.getElem?_eq_getElem h8, List.getElem?_eq_getElem h9] at h7
    simp only [Array.getElem_extract, List.getElem_toArray, List.getElem_take, List.getElem_drop]
    exact Option.some.inj h7
theorem flat_len {α : Type} {enc : α → List Value} {sz : Nat} (he : ∀ x, (enc x).length = sz) (l : List α) : (l.flatMap enc).length = l.length * sz := by
  induction l with
  | nil => simp
  | cons x l ih => simp [ih, he, Nat.add_mul]; omega
theorem flat_drop {α : Type} {enc : α → List Value} {sz : Nat} (he : ∀ x, (enc x).length = sz) : ∀ (l : List α) (i : Nat) (hi : i < l.length), ((l.flatMap enc).drop (i * sz)).take sz = enc l[i] := by
  intro l
  induction l with
  | nil => intro i hi; cases hi
  | cons x l ih =>
    intro i hi
    cases i with
    | zero => simp only [List.flatMap_cons, Nat.zero_mul, List.drop_zero, List.getElem_cons_zero]; rw [← he x, List.take_left']; rfl
    | succ i =>
      have h1 : (i + 1) * sz = (enc x).length + i * sz := by rw [he x, Nat.add_mul]; omega
      simp only [List.flatMap_cons, List.getElem_cons_succ]
      rw [h1, ← List.drop_drop, List.drop_left']
      · exact ih i (by simpa using hi)
      · rfl
theorem flat_get {α : Type} {enc : α → List Value} {sz : Nat} (he : ∀ x, (enc x).length = sz) (l : List α) (i j : Nat) (hi : i < l.length) (hj : j < sz) :
    (l.flatMap enc)[i * sz + j]? = (enc l[i])[j]? := by
  rw [← flat_drop he l i hi]
  simp [hj]
theorem Sl.elem {α : Type} {enc : α → List Value} {sz : Nat} (he : ∀ x, (enc x).length = sz) {h : Heap} {g : Addr} {l : List α} (hr : rowAt h g (l.flatMap enc)) {i : Nat} (hi : i < l.length) :
    h.row (g.add (i * sz)) sz = some (enc l[i]).toArray := by
  have hlen := flat_len he l
  have : (i + 1) * sz ≤ l.length * sz := Nat.mul_le_mul_right _ hi
  have h2 : (i + 1) * sz = i * sz + sz := by rw [Nat.add_mul]; omega
  rw [hr.row (i := i * sz) (n := sz) (by omega), flat_drop he l i hi]
theorem Sl.field {α : Type} {enc : α → List Value} {sz : Nat} (he : ∀ x, (enc x).length = sz) {h : Heap} {g : Addr} {l : List α} (hr : rowAt h g (l.flatMap enc)) {i j : Nat} (hi : i < l.length) (hj : j < sz) :
    h.cell ((g.add (i * sz)).add j) = some ((enc l[i])[j]'(by rw [he]; exact hj)) := by
  have hlen := flat_len he l
  have h1 : (i + 1) * sz ≤ l.length * sz := Nat.mul_le_mul_right _ hi
  have h2 : (i + 1) * sz = i * sz + sz := by rw [Nat.add_mul]; omega
  have hlt : i * sz + j < (l.flatMap enc).length := by omega
  have e : (g.add (i * sz)).add j = g.add (i * sz + j) := by
    rw [addr_add' g hr.1, addr_add' _ rfl, addr_add' g hr.1]; simp [Nat.add_assoc]
  rw [e, hr.cell hlt]
  have := flat_get he l i j hi hj
  rw [List.getElem?_eq_getElem hlt, List.getElem?_eq_getElem (by rw [he]; exact hj)] at this
  exact this
end Go.Cw
namespace Go.Cw
open Go
def OwnS {α : Type} (enc : α → List Value) (sz : Nat) (h0 h : Heap) (v : Value) (l : List α) : Prop :=
  Heap.le h0 h ∧ ∃ a cap, v = .slice a l.length cap ∧ l.length ≤ cap ∧ cap ≤ maxLen ∧
    ((a = none ∧ l = [] ∧ cap = 0) ∨ ∃ b c t, a = some ⟨b, 0, none⟩ ∧ h0 b = none ∧ h b = some (.cells c t (0, 0)) ∧ c.size = cap * sz ∧ ∀ i, i < (l.flatMap enc).length → c[i]? = (l.flatMap enc)[i]?)
theorem Heap.le.refl (h : Heap) : Heap.le h h := fun _ _ h => h
theorem Heap.le.trans {a b c : Heap} (h1 : Heap.le a b) (h2 : Heap.le b c) : Heap.le a c := fun x o h => h2 x o (h1 x o h)
theorem Heap.le.new {h0 h : Heap} (hl : Heap.le h0 h) {b : Nat} (hb : h b = none) (o : Obj) : Heap.le h0 (h.set b o) := by
  intro x ob hx
  have := hl x ob hx
  simp only [Heap.set]
  split
  · rename_i e; subst e; rw [hb] at this; cases this
  · exact this
theorem Heap.le.over {h0 h : Heap} (hl : Heap.le h0 h) {b : Nat} (hb : h0 b = none) (o : Obj) : Heap.le h0 (h.set b o) := by
  intro x ob hx
  have := hl x ob hx
  simp only [Heap.set]
  split
  · rename_i e; subst e; rw [hb] at hx; cases hx
  · exact this
theorem OwnS.nil {α : Type} {enc : α → List Value} {sz : Nat} {h0 h : Heap} (hl : Heap.le h0 h) : OwnS enc sz h0 h (.slice none 0 0) ([] : List α) :=
  ⟨hl, none, 0, rfl, by simp, by simp [maxLen], .inl ⟨rfl, rfl, rfl⟩⟩
theorem OwnS.sl {α : Type} {enc : α → List Value} {sz : Nat} (he : ∀ x, (enc x).length = sz) {h0 h : Heap} {v : Value} {l : List α} (ho : OwnS enc sz h0 h v l) : Sl enc h v l := by
  obtain ⟨_, a, cap, h1, h2, _, h3⟩ := ho
  refine ⟨a, cap, h1, h2, ?_⟩
  rcases h3 with ⟨_, h4, _⟩ | ⟨b, c, t, h4, _, h5, h6, h7⟩
  · exact .inl h4
  · refine .inr ⟨_, h4, rfl, c, t, _, h5, ?_, ?_⟩
    · rw [flat_len he, h6]
      have := Nat.mul_le_mul_right sz h2
      simpa using this
    · intro i hi
      simpa using h7 i hi
theorem putL_get (c : Array Value) : ∀ (l : List Value) (off i : Nat), off + l.length ≤ c.size → (putL c off l).size = c.size ∧ (putL c off l)[i]? = if off ≤ i ∧ i < off + l.length then l[i - off]? else c[i]? := by
  intro l
  induction l generalizing c with
  | nil => intro off i _; simp [putL]; omega
  | cons v l ih =>
    intro off i hle
    simp only [List.length_cons] at hle
    obtain ⟨h1, h2⟩ := ih (c.setIfInBounds off v) (off + 1) i (by simp; omega)
    refine ⟨by simpa [putL] using h1, ?_⟩
    simp only [putL, h2, List.length_cons]
    by_cases e : i = off
    · subst e
      have hlt : i < c.size := by omega
      have : ¬ (i + 1 ≤ i ∧ i < i + 1 + l.length) := by omega
      rw [if_neg this, if_pos (by omega)]
      simp [hlt]
    · by_cases hh : off + 1 ≤ i ∧ i < off + 1 + l.length
      · rw [if_pos hh, if_pos (by omega)]
        have : i - off = (i - (off + 1)) + 1 := by omega
        rw [this]; simp
      · rw [if_neg hh, if_neg (by omega)]
        simp [Array.getElem?_setIfInBounds, Ne.symm e]
end Go.Cw
namespace Go.Cw
open Go
section
variable {N : Num} {Γ : Ctx} {Q : SE → Env → Heap → Prop} {env : Env} {h : Heap} {K : Env → Heap → Prop} {a b s : St} {i : Nat}
instance [GoodC Γ] [hq : MonoQ Q] : MonoQ (seqK N Γ b Q) where
  up := by
    intro e env env' h hl hx
    cases e with
    | normal => exact SW_mono GoodC.imp b (fun hl hx => MonoQ.up hl hx) hl hx
    | exit i => exact hq.up (e := .exit i) hl hx
    | ret => exact hq.up (e := .ret) hl hx
instance [hq : MonoQ Q] : MonoQ (blkK i Q) where
  up := by
    intro e env env' h hl hx
    cases e with
    | normal => exact hq.up (e := .normal) hl hx
    | exit j =>
      simp only [blkK] at hx ⊢
      split at hx
      · rename_i hj; simp only [hj, if_true]; exact hq.up hl hx
      · rename_i hj; simp only [hj, if_false]; exact hq.up hl hx
    | ret => exact hq.up (e := .ret) hl hx
instance {σ : Type} {E : σ → Env} {I : σ → Heap → Prop} {m : σ → Nat} {n : Nat} [hq : MonoQ Q] : MonoQ (loopK E I m n Q) where
  up := by
    intro e env env' h hl hx
    cases e with
    | normal => obtain ⟨s, h1, h2, h3⟩ := hx; exact ⟨s, h1, ele_trans _ _ _ h2 hl, h3⟩
    | exit i => exact hq.up (e := .exit i) hl hx
    | ret => exact hq.up (e := .ret) hl hx
instance {R : Env → Heap → Prop} [hq : MonoQ Q] : MonoQ (meetK R Q) where
  up := by
    intro e env env' h hl hx
    cases e with
    | normal => obtain ⟨s, h2, h3⟩ := hx; exact ⟨s, ele_trans _ _ _ h2 hl, h3⟩
    | exit i => exact hq.up (e := .exit i) hl hx
    | ret => exact hq.up (e := .ret) hl hx
instance {res : List Ex} {K : Value → Heap → Prop} : MonoQ (finK N res K) where
  up := by
    intro e env env' h hl hx
    cases e with
    | normal => obtain ⟨vs, h1, h2⟩ := hx; exact ⟨vs, evVals_mono hl _ h1, h2⟩
    | exit i => exact hx
    | ret => obtain ⟨vs, h1, h2⟩ := hx; exact ⟨vs, evVals_mono hl _ h1, h2⟩
theorem i_fun {F : SFun} {args : List Value} {K : Value → Heap → Prop} (hn : args.length = F.np) (hx : SW N Γ F.body (finK N F.res K) (env0 F.nv args) h) : SF N Γ F args h K := ⟨hn, hx⟩
theorem i_cond {p : Prop} [Decidable p] (ht : p → SW N Γ a Q env h) (hf : ¬p → SW N Γ b Q env h) : condW N Γ (some (.v (.bool (decide p)))) a b Q env h := by
  by_cases h : p
  · simp only [h, decide_true]; exact ht h
  · simp only [h, decide_false]; exact hf h
theorem i_loop {σ : Type} [GoodC Γ] [MonoQ Q] (E : σ → Env) (I : σ → Heap → Prop) (m : σ → Nat) (s0 : σ) (he : ele (E s0) env) (h0 : I s0 h)
    (hs : ∀ s h, I s h → SW N Γ b (loopK E I m (m s) Q) (E s) h) : SW N Γ (.loop b) Q env h := by
  refine ⟨fun n env h => ∃ s, m s = n ∧ ele (E s) env ∧ I s h, m s0, ⟨s0, rfl, he, h0⟩, ?_⟩
  rintro n env h ⟨s, rfl, he, hI⟩
  refine SW_mono GoodC.imp b (fun {x e e' h} hl hx => ?_) he (hs s h hI)
  cases x with
  | normal => obtain ⟨s', h1, h2, h3⟩ := hx; exact ⟨m s', h1, s', rfl, ele_trans _ _ _ h2 hl, h3⟩
  | exit i => exact MonoQ.up (Q := Q) (e := .exit i) hl hx
  | ret => exact MonoQ.up (Q := Q) (e := .ret) hl hx
theorem k_loop {σ : Type} {E : σ → Env} {I : σ → Heap → Prop} {m : σ → Nat} {n : Nat} (s : σ) (hm : m s < n) (he : ele (E s) env) (hI : I s h) : loopK E I m n Q .normal env h := ⟨s, hm, he, hI⟩
theorem i_meet [GoodC Γ] [MonoQ Q] (R : Env → Heap → Prop) (hb : ∀ env h, R env h → SW N Γ b Q env h) (hx : SW N Γ s (meetK R Q) env h) : SW N Γ s (seqK N Γ b Q) env h :=
  SW_mono GoodC.imp s (fun {x e e' h} hl hx => by
    cases x with
    | normal => obtain ⟨e0, h1, h2⟩ := hx; exact SW_mono GoodC.imp b (fun hl hx => MonoQ.up hl hx) (ele_trans _ _ _ h1 hl) (hb e0 h h2)
    | exit i => exact MonoQ.up (Q := Q) (e := .exit i) hl hx
    | ret => exact MonoQ.up (Q := Q) (e := .ret) hl hx) (ele_refl env) hx
theorem i_meet_blk [GoodC Γ] [MonoQ Q] (R : Env → Heap → Prop) (hb : ∀ env h, R env h → SW N Γ b Q env h) (hx : SW N Γ s (blkK i (meetK R Q)) env h) : SW N Γ s (blkK i (seqK N Γ b Q)) env h := i_meet (s := .block i s) R hb hx
theorem k_meet {R : Env → Heap → Prop} (env0 : Env) (he : ele env0 env) (hR : R env0 h) : meetK R Q .normal env h := ⟨env0, he, hR⟩
theorem i_lew {ws : List Heap} {A : Prop} (ha : ∀ x ∈ ws, Heap.le x h) (hb : A) : leW ws h A := ⟨ha, hb⟩
theorem i_le {l : Let} {ls : List Let} {ws : List Heap} {r : DS} {e0 : Env} {h' : Heap} (ha : ∀ z ∈ h :: ws, Heap.le z h') (hb : dsW N Γ r (h :: ws) env h' K) : dsK N true (l :: ls) ws e0 h (dsC N Γ r K) env h' := ⟨h, .inl rfl, fun _ => ha, hb⟩
theorem le_one {x h : Heap} (h1 : Heap.le x h) : ∀ y ∈ [x], Heap.le y h := by intro y hy; simp at hy; subst hy; exact h1
theorem i_call {S : Spec} {k : Nat} {us : List Value} {K : Value → Heap → Prop} (hs : Sat S (Γ k)) (hx : S us h K) : efW N Γ (.call k) us h K := hs _ _ _ hx
end
theorem Pe : (ele [] [] = True) ∧ (∀ e y e', ele (none :: e) (y :: e') = ele e e') ∧ (∀ x e y e', ele (some x :: e) (some y :: e') = (x = y ∧ ele e e')) := ⟨rfl, fun _ _ _ => rfl, fun _ _ _ _ => rfl⟩
end Go.Cw
namespace Go.Cw
open Go
def encB (b : UInt8) : List Value := [.int .u8 b.toNat]
theorem encB_len (b : UInt8) : (encB b).length = 1 := rfl
theorem bytesOfCells_flat (l : List UInt8) : bytesOfCells (l.flatMap encB) = some l := by
  induction l with
  | nil => rfl
  | cons b l ih =>
    show (bytesOfCells (l.flatMap encB)).map (UInt8.ofNat (b.toNat : Int).toNat :: ·) = _
    rw [ih]; simp
theorem addr_zero {g : Addr} : g.add 0 = g := rfl
theorem Sl.row {α : Type} {enc : α → List Value} {sz : Nat} (he : ∀ x, (enc x).length = sz) {h : Heap} {a : Addr} {l : List α} (hr : rowAt h a (l.flatMap enc)) : h.row a (l.length * sz) = some (l.flatMap enc).toArray := by
  have := hr.row (i := 0) (n := l.length * sz) (by rw [flat_len he]; omega)
  rw [addr_zero] at this
  rw [this, List.drop_zero, List.take_of_length_le (by rw [flat_len he]; exact Nat.le_refl _)]
theorem b2s_sl {N : Num} {env : Env} {h : Heap} {v : Value} {l : List UInt8} (hs : Sl encB h v l) : o1V N env h .b2s (.v v) = some (.v (.string ⟨l.toArray⟩)) := by
  obtain ⟨a, cap, rfl, hcap, h1⟩ := hs
  rcases h1 with rfl | ⟨g, rfl, hr⟩
  · cases a with
    | none => rfl
    | some g =>
      simp [o1V, Heap.row, bytesOfCells]
  · have := Sl.row encB_len hr
    simp only [o1V]
    rw [Nat.mul_one] at this
    rw [this]
    simp [bytesOfCells_flat]
end Go.Cw
namespace Go.Cw
open Go
def elt (v : Value) (n : Nat) : Addr := match v with
  | .slice (some a) _ _ => a.add n
  | _ => ⟨0, 0, none⟩
theorem Sl.rules {α : Type} {enc : α → List Value} (sz : Nat) (he : ∀ x, (enc x).length = sz) (d : α) {h : Heap} {v : Value} {l : List α} (hs : Sl enc h v l) :
    (∀ N env, o1V N env h .llen (.v v) = some (.v (.int .i64 l.length))) ∧
    (∀ k (n : Int), 0 ≤ n → n < (l.length : Int) → o2V h (.iadr sz) (.v v) (.v (.int k n)) = some (.v (.pointer (some (elt v (n.toNat * sz)))))) ∧
    (∀ i, i < l.length → h.row (elt v (i * sz)) sz = some (enc (l.getD i d)).toArray) ∧
    (∀ i j, i < l.length → j < sz → h.cell ((elt v (i * sz)).add j) = (enc (l.getD i d))[j]?) ∧
    (∀ i, i < l.length → 0 < sz → h.cell (elt v (i * sz)) = (enc (l.getD i d))[0]?) ∧ one v = true ∧ v.cells = #[v] ∧
    (0 < l.length → h.row (elt v 0) sz = some (enc (l.getD 0 d)).toArray) ∧ (∀ j, 0 < l.length → j < sz → h.cell ((elt v 0).add j) = (enc (l.getD 0 d))[j]?) ∧ (0 < l.length → 0 < sz → h.cell (elt v 0) = (enc (l.getD 0 d))[0]?) := by
  obtain ⟨a, cap, rfl, hcap, hr⟩ := hs
  have hne : ∀ i, i < l.length → ∃ g, a = some g ∧ rowAt h g (l.flatMap enc) := by
    intro i hi
    exact hr.resolve_left (by intro e; rw [e] at hi; cases hi)
  have hg : ∀ i (hi : i < l.length), l.getD i d = l[i] := by intro i hi; simp [List.getD_eq_getElem?_getD, hi]
  have k3 : ∀ i, i < l.length → h.row (elt (.slice a l.length cap) (i * sz)) sz = some (enc (l.getD i d)).toArray := by
    intro i hi
    obtain ⟨g, rfl, hrow⟩ := hne i hi
    rw [hg i hi]
    exact Sl.elem he hrow hi
  have k4 : ∀ i j, i < l.length → j < sz → h.cell ((elt (.slice a l.length cap) (i * sz)).add j) = (enc (l.getD i d))[j]? := by
    intro i j hi hj
    obtain ⟨g, rfl, hrow⟩ := hne i hi
    rw [hg i hi, List.getElem?_eq_getElem (by rw [he]; exact hj)]
    exact Sl.field he hrow hi hj
  have k5 : ∀ i, i < l.length → 0 < sz → h.cell (elt (.slice a l.length cap) (i * sz)) = (enc (l.getD i d))[0]? := by
    intro i hi hj
    obtain ⟨g, rfl, hrow⟩ := hne i hi
    rw [hg i hi, List.getElem?_eq_getElem (by rw [he]; exact hj)]
    exact Sl.field he hrow hi hj
  refine ⟨fun _ _ => rfl, ?_, k3, k4, k5, rfl, rfl, fun hi => by simpa using k3 0 hi, fun j hi hj => by simpa using k4 0 j hi hj, fun hi hj => by simpa using k5 0 hi hj⟩
  intro k n h0 h1
  obtain ⟨g, rfl, _⟩ := hne n.toNat (by omega)
  have hb : inBounds n l.length = true := by simp [inBounds, h0, h1]
  simp only [o2V, hb, if_true, elt]
theorem Sl.rules1 {α : Type} {enc : α → List Value} (e1 : α → Value) (he : ∀ x, enc x = [e1 x]) (d : α) {h : Heap} {v : Value} {l : List α} (hs : Sl enc h v l) :
    (∀ N env, o1V N env h .llen (.v v) = some (.v (.int .i64 l.length))) ∧
    (∀ k (n : Int), 0 ≤ n → n < (l.length : Int) → o2V h (.iadr 1) (.v v) (.v (.int k n)) = some (.v (.pointer (some (elt v n.toNat))))) ∧
    (∀ i, i < l.length → h.cell (elt v i) = some (e1 (l.getD i d))) ∧ Cw.one v = true ∧ v.cells = #[v] := by
  obtain ⟨h1, h2, h3, h4, h5, h6, h7, _⟩ := hs.rules 1 (fun x => by rw [he]; rfl) d
  refine ⟨h1, fun k n a b => by have := h2 k n a b; simpa using this, fun i hi => ?_, h6, h7⟩
  have := h5 i hi (by omega)
  rw [Nat.mul_one, he] at this
  simpa using this
theorem Sl.one {α : Type} {enc : α → List Value} {h : Heap} {v : Value} {l : List α} (hs : Sl enc h v l) : Cw.one v = true ∧ v.cells = #[v] := by
  obtain ⟨a, cap, rfl, hcap, hr⟩ := hs; exact ⟨rfl, rfl⟩
theorem OwnS.one {α : Type} {enc : α → List Value} {sz : Nat} {h0 h : Heap} {v : Value} {l : List α} (hs : OwnS enc sz h0 h v l) : Cw.one v = true ∧ v.cells = #[v] := by
  obtain ⟨_, a, cap, rfl, hcap, hr⟩ := hs; exact ⟨rfl, rfl⟩
theorem take_succ_d {α : Type} (d : α) {l : List α} {i : Nat} (hi : i < l.length) : l.take (i + 1) = l.take i ++ [l.getD i d] := by
  rw [List.take_succ_eq_append_getElem hi]; simp [List.getD_eq_getElem?_getD, hi]
theorem getD_mem {α : Type} (d : α) {l : List α} {i : Nat} (hi : i < l.length) : l.getD i d ∈ l := by
  simp [List.getD_eq_getElem?_getD, hi]
def encI (n : Int) : List Value := [.int .i64 n]
theorem Sl.b2s {h : Heap} {v : Value} {l : List UInt8} (hs : Sl encB h v l) (N : Num) (env : Env) : o1V N env h .b2s (.v v) = some (.v (.string (str l))) := b2s_sl hs
end Go.Cw
namespace Go.Cw
open Go
theorem OwnS.le {α : Type} {enc : α → List Value} {sz : Nat} {h0 h h' : Heap} {v : Value} {l : List α} (ho : OwnS enc sz h0 h v l) (hl : Heap.le h h') : OwnS enc sz h0 h' v l := by
  obtain ⟨h1, a, cap, h2, h3, h4, h5⟩ := ho
  refine ⟨h1.trans hl, a, cap, h2, h3, h4, h5.imp id ?_⟩
  rintro ⟨b, c, t, a1, a2, a3, a4⟩
  exact ⟨b, c, t, a1, a2, hl _ _ a3, a4⟩
theorem OwnS.base {α : Type} {enc : α → List Value} {sz : Nat} {h0 h1 h : Heap} {v : Value} {l : List α} (ho : OwnS enc sz h1 h v l) (hl : Heap.le h0 h1) : OwnS enc sz h0 h v l := by
  obtain ⟨a0, a, cap, h2, h3, h4, h5⟩ := ho
  refine ⟨hl.trans a0, a, cap, h2, h3, h4, h5.imp id ?_⟩
  rintro ⟨b, c, t, a1, a2, a3, a4⟩
  refine ⟨b, c, t, a1, ?_, a3, a4⟩
  cases hh : h0 b with
  | none => rfl
  | some o => rw [hl b o hh] at a2; cases a2
theorem Sl.nil {α : Type} {enc : α → List Value} {h : Heap} {a : Option Addr} {c : Nat} : Sl enc h (.slice a 0 c) ([] : List α) := ⟨a, c, rfl, by simp, .inl rfl⟩
def errV (N : Num) (k : Nat) : Value := if k = 0 then .nilIface else .iface (N.tid 111) (.int .i64 k)
theorem errV_zero (N : Num) : errV N 0 = .nilIface := rfl
theorem errV_succ (N : Num) (k : Nat) : errV N (k + 1) = .iface (N.tid 111) (.int .i64 (k + 1 : Nat)) := rfl
theorem str_beq (a b : List UInt8) : (str a == str b) = decide (a = b) := by
  rw [ba_beq]
  simp only [str]
  rw [Bool.eq_iff_iff]
  simp
theorem cellsEq_int (k : IntKind) (ks : List Bk) (a b : Int) (xs ys : List Value) : cellsEq (.int :: ks) (.int k a :: xs) (.int k b :: ys) = if a = b then cellsEq ks xs ys else some false := by
  simp only [cellsEq, cellEq, if_true]
  by_cases e : a = b
  · subst e; simp
  · have : (a == b) = false := by simpa using e
    rw [this]; simp [e]
theorem cellsEq_str (ks : List Bk) (a b : List UInt8) (xs ys : List Value) : cellsEq (.str :: ks) (.string (str a) :: xs) (.string (str b) :: ys) = if a = b then cellsEq ks xs ys else some false := by
  simp only [cellsEq, cellEq, str_beq]
  by_cases e : a = b <;> simp [e]
theorem cellsEq_nil : cellsEq [] [] [] = some true := rfl
end Go.Cw
namespace Go.Cw
open Go
def F169 : SFun := ⟨1, 22, (.seq (.reg [⟨[], some (.pnew 1 (.var 0))⟩, ⟨[⟨[], 2, (.con (.string .empty))⟩, ⟨[], 3, (.con .nilIface)⟩], none⟩])
  (.seq (.reg [⟨[], some (.ef [] (.call 170) [(.o1 (.ldn 6) (.pad 1))] (some 6))⟩, ⟨[⟨[], 4, (.var 6)⟩], none⟩])
  (.seq (.seq (.reg [⟨[⟨[], 7, (.o2 (.eqv .iface true) (.var 4) (.con .nilIface))⟩], none⟩])
  (.cond (.var 7)
   (.seq (.reg [⟨[⟨[], 2, (.con (.string .empty))⟩, ⟨[], 3, (.var 4)⟩], none⟩])
   .ret)
   .skip))
  (.seq (.dreg (.eff true [⟨[], 0, (.o1 .ld (.o1 (.fadr 0) (.pad 1)))⟩, ⟨[], 0, (.o1 .ld (.o1 (.fadr 1) (.pad 1)))⟩, ⟨[], 0, (.o1 .ld (.o1 (.fadr 2) (.pad 1)))⟩, ⟨[], 0, (.o1 .ld (.o1 (.fadr 3) (.pad 1)))⟩] ⟨[⟨[], 8, (.o2 (.bin .add) (.o1 .ld (.o1 (.fadr 0) (.pad 1))) (.con (.string ⟨#[58, 32]⟩)))⟩, ⟨[], 10, (.o1 .ld (.o1 (.fadr 1) (.pad 1)))⟩, ⟨[], 12, (.o1 .ld (.o1 (.fadr 2) (.pad 1)))⟩, ⟨[], 15, (.o1 .ld (.o1 (.fadr 3) (.pad 1)))⟩], some (.ef [] (.call 185) [] (some 9))⟩ (.eff true [] ⟨[⟨[], 11, (.o2 (.bin .add) (.o2 (.bin .add) (.var 8) (.o2 (.vidx 4) (.var 9) (.var 10))) (.con (.string ⟨#[32]⟩)))⟩], some (.ef [] (.call 176) [(.var 12)] (some 13))⟩ (.eff true [] ⟨[⟨[], 14, (.o2 (.bin .add) (.o2 (.bin .add) (.var 11) (.var 13)) (.con (.string ⟨#[32, 116, 104, 101, 110, 32]⟩)))⟩], some (.ef [] (.call 176) [(.var 15)] (some 16))⟩ (.done ⟨[⟨[], 5, (.o2 (.bin .add) (.var 14) (.var 16))⟩], none⟩)))))
  (.seq (.seq (.reg [⟨[⟨[], 17, (.o2 (.bin .geq) (.o1 .ld (.o1 (.fadr 4) (.pad 1))) (.con (.int .i64 0)))⟩], none⟩])
  (.cond (.var 17)
   (.reg [⟨[⟨[], 18, (.var 5)⟩], some (.ef [] (.call 176) [(.o1 .ld (.o1 (.fadr 4) (.pad 1)))] (some 19))⟩, ⟨[⟨[], 5, (.o2 (.bin .add) (.var 18) (.o2 (.bin .add) (.con (.string ⟨#[32, 119, 105, 116, 104, 111, 117, 116, 32]⟩)) (.var 19)))⟩], none⟩])
   .skip))
  (.seq (.reg [⟨[⟨[], 20, (.o2 (.bin .add) (.var 5) (.con (.string ⟨#[32, 119, 105, 116, 104, 105, 110, 32]⟩)))⟩], some (.ef [] (.call 176) [(.o1 .ld (.o1 (.fadr 5) (.pad 1)))] (some 21))⟩, ⟨[⟨[], 2, (.o2 (.bin .add) (.var 20) (.var 21))⟩, ⟨[], 3, (.con .nilIface)⟩], none⟩])
  .ret)))))), [(.var 2), (.var 3)]⟩
def F170 : SFun := ⟨1, 7, (.seq (.reg [⟨[], some (.pnew 1 (.var 0))⟩, ⟨[⟨[], 2, (.con .nilIface)⟩], none⟩])
  (.seq (.seq (.reg [⟨[], some (.ef [] (.call 186) [(.o1 .ld (.o1 (.fadr 0) (.pad 1)))] (some 3))⟩, ⟨[⟨[], 4, (.o1 .not (.var 3))⟩], none⟩])
  (.cond (.var 4)
   (.seq (.reg [⟨[⟨[], 2, (.o1 (.iface 111) (.con (.int .i64 4)))⟩], none⟩])
   .ret)
   .skip))
  (.seq (.seq (.reg [⟨[⟨[], 5, (.pick (.pick (.pick (.pick (.pick (.pick (.pick (.pick (.pick (.o2 (.bin .lss) (.o1 .ld (.o1 (.fadr 1) (.pad 1))) (.con (.int .i64 0))) (.con (.bool true)) (.o2 (.bin .gtr) (.o1 .ld (.o1 (.fadr 1) (.pad 1))) (.con (.int .i64 3)))) (.con (.bool true)) (.o2 (.bin .lss) (.o1 .ld (.o1 (.fadr 2) (.pad 1))) (.con (.int .i64 0)))) (.con (.bool true)) (.o2 (.bin .geq) (.o1 .ld (.o1 (.fadr 2) (.pad 1))) (.con (.int .i64 8)))) (.con (.bool true)) (.o2 (.bin .lss) (.o1 .ld (.o1 (.fadr 3) (.pad 1))) (.con (.int .i64 0)))) (.con (.bool true)) (.o2 (.bin .geq) (.o1 .ld (.o1 (.fadr 3) (.pad 1))) (.con (.int .i64 8)))) (.con (.bool true)) (.o2 (.bin .lss) (.o1 .ld (.o1 (.fadr 4) (.pad 1))) (.con (.int .i64 (-1))))) (.con (.bool true)) (.o2 (.bin .geq) (.o1 .ld (.o1 (.fadr 4) (.pad 1))) (.con (.int .i64 8)))) (.con (.bool true)) (.o2 (.bin .lss) (.o1 .ld (.o1 (.fadr 5) (.pad 1))) (.con (.int .i64 1)))) (.con (.bool true)) (.o2 (.bin .gtr) (.o1 .ld (.o1 (.fadr 5) (.pad 1))) (.con (.int .i64 50))))⟩], none⟩])
  (.cond (.var 5)
   (.seq (.reg [⟨[⟨[], 2, (.o1 (.iface 111) (.con (.int .i64 1)))⟩], none⟩])
   .ret)
   .skip))
  (.seq (.seq (.reg [⟨[⟨[], 6, (.pick (.pick (.o2 (.bin .eql) (.o1 .ld (.o1 (.fadr 2) (.pad 1))) (.o1 .ld (.o1 (.fadr 3) (.pad 1)))) (.con (.bool true)) (.o2 (.bin .eql) (.o1 .ld (.o1 (.fadr 4) (.pad 1))) (.o1 .ld (.o1 (.fadr 2) (.pad 1))))) (.con (.bool true)) (.o2 (.bin .eql) (.o1 .ld (.o1 (.fadr 4) (.pad 1))) (.o1 .ld (.o1 (.fadr 3) (.pad 1)))))⟩], none⟩])
  (.cond (.var 6)
   (.seq (.reg [⟨[⟨[], 2, (.o1 (.iface 111) (.con (.int .i64 3)))⟩], none⟩])
   .ret)
   .skip))
  (.seq (.reg [⟨[⟨[], 2, (.con .nilIface)⟩], none⟩])
  .ret))))), [(.var 2)]⟩
def F172 : SFun := ⟨1, 32, (.seq (.reg [⟨[], some (.pnew 1 (.con (.agg #[(.string .empty), (.int .i64 0), (.int .i64 0), (.int .i64 0), (.int .i64 0), (.int .i64 0)])))⟩, ⟨[⟨[], 2, (.con .nilIface)⟩], none⟩])
  (.seq (.reg [⟨[], some (.ef [] (.call 181) [(.var 0), (.con (.string ⟨#[32]⟩))] (some 13))⟩, ⟨[], some (.ef [] (.new 29) [(.con (.slice none 0 0))] (some 3))⟩, ⟨[], some (.ef [] (.st 1) [(.var 3), (.var 13)] none)⟩])
  (.seq (.reg [⟨[⟨[], 14, (.o2 (.bput 4 1) (.o2 (.bput 1 1) (.con (.agg #[(.string .empty), (.int .i64 0), (.int .i64 0), (.int .i64 0), (.int .i64 0), (.int .i64 0)])) (.con (.int .i64 (-1)))) (.con (.int .i64 (-1))))⟩], some (.pnew 4 (.con (.agg #[(.string .empty), (.int .i64 0), (.int .i64 0), (.int .i64 0), (.int .i64 0), (.int .i64 0)])))⟩, ⟨[], some (.pst 4 (.upd (.cnt 4) 4 6 (.pad 4) (.var 14)))⟩])
  (.seq (.reg [⟨[], some (.ef [] (.new 3) [(.con (.int .i64 0))] (some 5))⟩, ⟨[], some (.ef [] (.st 1) [(.var 5), (.con (.int .i64 0))] none)⟩])
  (.seq (.reg [⟨[⟨[], 15, (.o2 .capp (.o2 .capp (.mkf 188) (.var 5)) (.var 3))⟩], some (.ef [] (.new 219) [(.con .nilFunc)] (some 6))⟩, ⟨[], some (.ef [] (.st 1) [(.var 6), (.var 15)] none)⟩])
  (.seq (.reg [⟨[⟨[], 7, (.o2 .capp (.mkf 189) (.var 6))⟩], none⟩])
  (.seq (.reg [⟨[], some (.ef [] .cal [(.o1 .ld (.var 6))] (some 16))⟩, ⟨[], some (.ef [] (.call 191) [(.var 16), (.con (.string ⟨#[58]⟩))] (some 17))⟩, ⟨[], some (.pst 4 (.upd (.cnt 4) 4 1 (.o1 (.fadr 0) (.pad 4)) (.var 17)))⟩])
  (.seq (.reg [⟨[], some (.ef [] .cal [(.o1 .ld (.var 6))] (some 18))⟩, ⟨[⟨[], 8, (.var 18)⟩], none⟩])
  (.seq (.seq (.reg [⟨[], some (.ef [] (.call 185) [] (some 19))⟩, ⟨[⟨[], 20, (.con (.int .i64 0))⟩], none⟩])
  (.block 0 (.loop (.seq (.reg [⟨[⟨[], 21, (.o2 (.bin .lss) (.var 20) (.con (.int .i64 4)))⟩], none⟩])
    (.seq (.cond (.var 21)
     .skip
     (.exit 0))
    (.seq (.block 1 (.seq (.reg [⟨[⟨[], 9, (.var 20)⟩, ⟨[], 10, (.o2 (.vidx 4) (.var 19) (.var 20))⟩], none⟩])
     (.seq (.reg [⟨[⟨[], 22, (.o2 (.bin .eql) (.var 10) (.var 8))⟩], none⟩])
     (.cond (.var 22)
      (.reg [⟨[], some (.pst 4 (.upd (.cnt 4) 4 1 (.o1 (.fadr 1) (.pad 4)) (.var 9)))⟩])
      .skip))))
    (.reg [⟨[⟨[], 20, (.o2 (.bin .add) (.var 20) (.con (.int .i64 1)))⟩], none⟩])))))))
  (.seq (.reg [⟨[], some (.ef [] .cal [(.var 7)] (some 23))⟩, ⟨[], some (.pst 4 (.upd (.cnt 4) 4 1 (.o1 (.fadr 2) (.pad 4)) (.var 23)))⟩])
  (.seq (.reg [⟨[], some (.ef [] .cal [(.o1 .ld (.var 6))] none)⟩])
  (.seq (.reg [⟨[], some (.ef [] .cal [(.var 7)] (some 24))⟩, ⟨[], some (.pst 4 (.upd (.cnt 4) 4 1 (.o1 (.fadr 3) (.pad 4)) (.var 24)))⟩])
  (.seq (.seq (.reg [⟨[], some (.ef [] .cal [(.o1 .ld (.var 6))] (some 25))⟩, ⟨[⟨[], 26, (.o2 (.bin .eql) (.var 25) (.con (.string ⟨#[119, 105, 116, 104, 111, 117, 116]⟩)))⟩], none⟩])
  (.cond (.var 26)
   (.seq (.reg [⟨[], some (.ef [] .cal [(.var 7)] (some 27))⟩, ⟨[], some (.pst 4 (.upd (.cnt 4) 4 1 (.o1 (.fadr 4) (.pad 4)) (.var 27)))⟩])
   (.reg [⟨[], some (.ef [] .cal [(.o1 .ld (.var 6))] none)⟩]))
   .skip))
  (.seq (.reg [⟨[], some (.ef [] .cal [(.var 7)] (some 28))⟩, ⟨[], some (.pst 4 (.upd (.cnt 4) 4 1 (.o1 (.fadr 5) (.pad 4)) (.var 28)))⟩])
  (.seq (.reg [⟨[], some (.ef [] (.call 169) [(.o1 (.ldn 6) (.pad 4))] (some 29))⟩, ⟨[⟨[], 11, (.o1 (.ext 0) (.var 29))⟩, ⟨[], 12, (.o1 (.ext 1) (.var 29))⟩], none⟩])
  (.seq (.seq (.reg [⟨[⟨[], 30, (.pick (.o2 (.eqv .iface true) (.var 12) (.con .nilIface)) (.con (.bool true)) (.o2 (.bin .neq) (.var 11) (.var 0)))⟩], none⟩])
  (.cond (.var 30)
   (.seq (.reg [⟨[⟨[], 31, (.o1 (.iface 111) (.con (.int .i64 4)))⟩], some (.pst 1 (.upd (.cnt 1) 1 6 (.pad 1) (.con (.agg #[(.string .empty), (.int .i64 0), (.int .i64 0), (.int .i64 0), (.int .i64 0), (.int .i64 0)]))))⟩, ⟨[⟨[], 2, (.var 31)⟩], none⟩])
   .ret)
   .skip))
  (.seq (.reg [⟨[], some (.pst 1 (.upd (.cnt 1) 1 6 (.pad 1) (.o1 (.ldn 6) (.pad 4))))⟩, ⟨[⟨[], 2, (.con .nilIface)⟩], none⟩])
  .ret))))))))))))))))), [(.o1 (.ldn 6) (.pad 1)), (.var 2)]⟩
def F185 : SFun := ⟨0, 1, (.seq (.reg [⟨[], some (.pnew 0 (.con (.agg #[(.string .empty), (.string .empty), (.string .empty), (.string .empty)])))⟩])
  (.seq (.reg [⟨[], some (.pst 0 (.upd (.cnt 0) 0 4 (.pad 0) (.o2 (.bput 3 1) (.o2 (.bput 2 1) (.o2 (.bput 1 1) (.o2 (.bput 0 1) (.con (.agg #[(.string .empty), (.string .empty), (.string .empty), (.string .empty)])) (.con (.string ⟨#[97, 110, 121]⟩))) (.con (.string ⟨#[105, 116, 101, 109]⟩))) (.con (.string ⟨#[99, 97, 115, 101]⟩))) (.con (.string ⟨#[112, 97, 108, 108, 101, 116]⟩)))))⟩])
  .ret)), [(.o1 (.ldn 4) (.pad 0))]⟩
def F186 : SFun := ⟨1, 7, (.seq (.reg [⟨[⟨[], 1, (.con (.bool false))⟩], none⟩])
  (.seq (.seq (.reg [⟨[⟨[], 3, (.o1 .slen (.var 0))⟩, ⟨[], 4, (.con (.int .i64 0))⟩], none⟩])
  (.block 0 (.loop (.seq (.reg [⟨[⟨[], 5, (.o2 (.bin .lss) (.var 4) (.var 3))⟩], none⟩])
    (.seq (.cond (.var 5)
     .skip
     (.exit 0))
    (.seq (.block 1 (.seq (.reg [⟨[⟨[], 2, (.var 4)⟩], none⟩])
     (.seq (.reg [⟨[⟨[], 6, (.pick (.o2 (.bin .lss) (.o2 .sidx (.var 0) (.var 2)) (.con (.int .u8 97))) (.con (.bool true)) (.o2 (.bin .gtr) (.o2 .sidx (.var 0) (.var 2)) (.con (.int .u8 122))))⟩], none⟩])
     (.cond (.var 6)
      (.seq (.reg [⟨[⟨[], 1, (.con (.bool false))⟩], none⟩])
      .ret)
      .skip))))
    (.reg [⟨[⟨[], 4, (.o2 (.bin .add) (.var 4) (.con (.int .i64 1)))⟩], none⟩])))))))
  (.seq (.reg [⟨[⟨[], 1, (.pick (.o2 (.bin .neq) (.var 0) (.con (.string .empty))) (.o2 (.bin .leq) (.o1 .slen (.var 0)) (.con (.int .i64 12))) (.con (.bool false)))⟩], none⟩])
  .ret))), [(.var 1)]⟩
def F188 : SFun := ⟨2, 4, (.seq (.reg [⟨[⟨[], 2, (.con (.string .empty))⟩], none⟩])
  (.seq (.seq (.reg [⟨[⟨[], 3, (.o2 (.bin .eql) (.o1 .ld (.var 0)) (.o1 .llen (.o1 .ld (.var 1))))⟩], none⟩])
  (.cond (.var 3)
   (.seq (.reg [⟨[⟨[], 2, (.con (.string .empty))⟩], none⟩])
   .ret)
   .skip))
  (.seq (.reg [⟨[], some (.ef [] (.st 1) [(.var 0), (.o2 (.bin .add) (.o1 .ld (.var 0)) (.con (.int .i64 1)))] none)⟩])
  (.seq (.reg [⟨[⟨[], 2, (.o1 .ld (.o2 (.iadr 1) (.o1 .ld (.var 1)) (.o2 (.bin .sub) (.o1 .ld (.var 0)) (.con (.int .i64 1)))))⟩], none⟩])
  .ret)))), [(.var 2)]⟩
def F189 : SFun := ⟨1, 7, (.seq (.reg [⟨[⟨[], 1, (.con (.int .i64 0))⟩], none⟩])
  (.seq (.reg [⟨[], some (.ef [] .cal [(.o1 .ld (.var 0))] (some 4))⟩, ⟨[], some (.ef [] (.call 190) [(.var 4)] (some 5))⟩, ⟨[⟨[], 2, (.o1 (.ext 0) (.var 5))⟩, ⟨[], 3, (.o1 (.ext 1) (.var 5))⟩], none⟩])
  (.seq (.seq (.reg [⟨[⟨[], 6, (.o2 (.eqv .iface true) (.var 3) (.con .nilIface))⟩], none⟩])
  (.cond (.var 6)
   (.seq (.reg [⟨[⟨[], 1, (.con (.int .i64 (-2)))⟩], none⟩])
   .ret)
   .skip))
  (.seq (.reg [⟨[⟨[], 1, (.var 2)⟩], none⟩])
  .ret)))), [(.var 1)]⟩
def F290 : SFun := ⟨2, 31, (.seq (.reg [⟨[], some (.pnew 2 (.var 0))⟩, ⟨[⟨[], 3, (.con (.bool false))⟩], none⟩])
  (.seq (.seq (.reg [⟨[⟨[], 13, (.pick (.o2 (.bin .gtr) (.o1 .slen (.var 1)) (.con (.int .i64 200))) (.con (.bool true)) (.o2 (.bin .gtr) (.o1 .slen (.o1 .ld (.o1 (.fadr 0) (.pad 2)))) (.con (.int .i64 100))))⟩], none⟩])
  (.cond (.var 13)
   (.seq (.reg [⟨[⟨[], 3, (.con (.bool true))⟩], none⟩])
   .ret)
   .skip))
  (.seq (.reg [⟨[], some (.ef [] (.call 172) [(.con (.string ⟨#[97, 58, 32, 97, 110, 121, 32, 49, 32, 116, 104, 101, 110, 32, 50, 32, 119, 105, 116, 104, 105, 110, 32, 53]⟩))] (some 14))⟩, ⟨[⟨[], 15, (.o1 (.ext 0) (.var 14))⟩, ⟨[], 16, (.o1 (.ext 1) (.var 14))⟩], some (.pnew 4 (.con (.agg #[(.string .empty), (.int .i64 0), (.int .i64 0), (.int .i64 0), (.int .i64 0), (.int .i64 0)])))⟩, ⟨[], some (.pst 4 (.upd (.cnt 4) 4 6 (.pad 4) (.var 15)))⟩, ⟨[⟨[], 5, (.var 16)⟩], none⟩])
  (.seq (.seq (.reg [⟨[⟨[], 17, (.pick (.o2 (.eqv .iface true) (.var 5) (.con .nilIface)) (.con (.bool true)) (.o2 (.bin .neq) (.o1 .ld (.o1 (.fadr 5) (.pad 4))) (.con (.int .i64 5))))⟩], none⟩])
  (.cond (.var 17)
   (.seq (.reg [⟨[⟨[], 3, (.con (.bool false))⟩], none⟩])
   .ret)
   .skip))
  (.seq (.reg [⟨[], some (.ef [] (.call 169) [(.o1 (.ldn 6) (.pad 2))] (some 18))⟩, ⟨[⟨[], 6, (.o1 (.ext 0) (.var 18))⟩, ⟨[], 7, (.o1 (.ext 1) (.var 18))⟩], none⟩])
  (.seq (.seq (.reg [⟨[⟨[], 19, (.o2 (.eqv .iface false) (.var 7) (.con .nilIface))⟩], none⟩])
  (.cond (.var 19)
   (.seq (.reg [⟨[], some (.ef [] (.call 172) [(.var 6)] (some 20))⟩, ⟨[⟨[], 21, (.o1 (.ext 0) (.var 20))⟩, ⟨[], 22, (.o1 (.ext 1) (.var 20))⟩], some (.pnew 8 (.con (.agg #[(.string .empty), (.int .i64 0), (.int .i64 0), (.int .i64 0), (.int .i64 0), (.int .i64 0)])))⟩, ⟨[], some (.pst 8 (.upd (.cnt 8) 8 6 (.pad 8) (.var 21)))⟩, ⟨[⟨[], 9, (.var 22)⟩], none⟩])
   (.seq (.reg [⟨[⟨[], 23, (.pick (.o2 (.eqv .iface true) (.var 9) (.con .nilIface)) (.con (.bool true)) (.o2 (.eqv (.flat [.str, .int, .int, .int, .int, .int]) true) (.o1 (.ldn 6) (.pad 8)) (.o1 (.ldn 6) (.pad 2))))⟩], none⟩])
   (.cond (.var 23)
    (.seq (.reg [⟨[⟨[], 3, (.con (.bool false))⟩], none⟩])
    .ret)
    .skip)))
   .skip))
  (.seq (.reg [⟨[], some (.ef [] (.call 172) [(.var 1)] (some 24))⟩, ⟨[⟨[], 25, (.o1 (.ext 0) (.var 24))⟩, ⟨[], 26, (.o1 (.ext 1) (.var 24))⟩], some (.pnew 10 (.con (.agg #[(.string .empty), (.int .i64 0), (.int .i64 0), (.int .i64 0), (.int .i64 0), (.int .i64 0)])))⟩, ⟨[], some (.pst 10 (.upd (.cnt 10) 10 6 (.pad 10) (.var 25)))⟩, ⟨[⟨[], 7, (.var 26)⟩], none⟩])
  (.seq (.seq (.reg [⟨[⟨[], 27, (.o2 (.eqv .iface true) (.var 7) (.con .nilIface))⟩], none⟩])
  (.cond (.var 27)
   (.seq (.reg [⟨[⟨[], 3, (.con (.bool true))⟩], none⟩])
   .ret)
   .skip))
  (.seq (.reg [⟨[], some (.ef [] (.call 169) [(.o1 (.ldn 6) (.pad 10))] (some 28))⟩, ⟨[⟨[], 11, (.o1 (.ext 0) (.var 28))⟩, ⟨[], 12, (.o1 (.ext 1) (.var 28))⟩], none⟩])
  (.seq (.reg [⟨[⟨[], 29, (.pick (.o2 (.eqv .iface false) (.var 12) (.con .nilIface)) (.o2 (.bin .eql) (.var 11) (.var 1)) (.con (.bool false)))⟩], some (.ef [((.pick (.o2 (.eqv .iface false) (.var 12) (.con .nilIface)) (.o2 (.bin .eql) (.var 11) (.var 1)) (.con (.bool false))), true)] (.call 170) [(.o1 (.ldn 6) (.pad 10))] (some 30))⟩, ⟨[⟨[], 3, (.pick (.var 29) (.o2 (.eqv .iface false) (.var 30) (.con .nilIface)) (.con (.bool false)))⟩], none⟩])
  .ret)))))))))), [(.var 3)]⟩
end Go.Cw
namespace Go.Cw
open Go
end Go.Cw
namespace Go.Cw
open Go
structure Rd where
  ant : Int
  str : Int
  age : Int
  tag : List UInt8
  deriving DecidableEq, Inhabited
def Rd.enc (r : Rd) : List Value := [.int .i64 r.ant, .int .i64 r.str, .int .i64 r.age, .string (Cw.str r.tag)]
def Rd.bad (r : Rd) : Prop := r.ant < 0 ∨ 3 < r.ant ∨ r.str < 0 ∨ 255 < r.str ∨ r.age < 0 ∨ 255 < r.age ∨ r.tag.length ≠ 8
instance (r : Rd) : Decidable r.bad := by unfold Rd.bad; infer_instance
end Go.Cw
namespace Go.Cw
open Go
end Go.Cw
namespace Go.Cw
open Go
def objAt (h : Heap) (a : Addr) (cs : List Value) : Prop :=
  a.spot = none ∧ ∃ c t, h a.block = some (.cells c t (0, 0)) ∧ a.off + cs.length ≤ c.size ∧ ∀ i, i < cs.length → c[a.off + i]? = cs[i]?
theorem objAt.le {h h' : Heap} {a : Addr} {cs : List Value} (ho : objAt h a cs) (hl : Heap.le h h') : objAt h' a cs := by
  obtain ⟨h1, c, t, h2, h3, h4⟩ := ho; exact ⟨h1, c, t, hl _ _ h2, h3, h4⟩
theorem objAt.row {h : Heap} {a : Addr} {cs : List Value} (ho : objAt h a cs) : rowAt h a cs := by
  obtain ⟨h1, c, t, h2, h3, h4⟩ := ho; exact ⟨h1, c, t, _, h2, h3, h4⟩
theorem objAt.rules {h : Heap} {a : Addr} {cs : List Value} (ho : objAt h a cs) : (∀ j, j < cs.length → h.cell (a.add j) = cs[j]?) ∧ (0 < cs.length → h.cell a = cs[0]?) ∧ h.row a cs.length = some cs.toArray := by
  have hr := ho.row
  refine ⟨fun j hj => by rw [hr.cell hj, List.getElem?_eq_getElem hj], fun hj => ?_, ?_⟩
  · have := hr.cell hj; rw [addr_zero] at this; rw [this, List.getElem?_eq_getElem hj]
  · have := hr.row (i := 0) (n := cs.length) (by omega)
    rw [addr_zero] at this; rw [this]; simp
def keeps (a : Addr) (n : Nat) (h h' : Heap) : Prop :=
  (∀ b o, b ≠ a.block → h b = some o → h' b = some o) ∧
  (∀ c t fz, h a.block = some (.cells c t fz) → ∃ c', h' a.block = some (.cells c' t fz) ∧ c'.size = c.size ∧ ∀ i, i < a.off ∨ a.off + n ≤ i → c'[i]? = c[i]?)
theorem keeps.of_le {a : Addr} {n : Nat} {h h' : Heap} (hl : Heap.le h h') : keeps a n h h' := ⟨fun b o _ hb => hl b o hb, fun c t fz hc => ⟨c, hl _ _ hc, rfl, fun _ _ => rfl⟩⟩
theorem keeps.refl (a : Addr) (n : Nat) (h : Heap) : keeps a n h h := .of_le (Heap.le.refl h)
theorem keeps.trans {a : Addr} {n : Nat} {h h' h'' : Heap} (k1 : keeps a n h h') (k2 : keeps a n h' h'') : keeps a n h h'' := by
  refine ⟨fun b o hb h1 => k2.1 b o hb (k1.1 b o hb h1), fun c t fz hc => ?_⟩
  obtain ⟨c', h1, h2, h3⟩ := k1.2 c t fz hc
  obtain ⟨c'', h4, h5, h6⟩ := k2.2 c' t fz h1
  exact ⟨c'', h4, h5.trans h2, fun i hi => (h6 i hi).trans (h3 i hi)⟩
theorem keeps.le {a : Addr} {n : Nat} {g h h' : Heap} (k : keeps a n h h') (hg : Heap.le g h) (hn : g a.block = none) : Heap.le g h' := by
  intro b o hb
  exact k.1 b o (by intro e; subst e; rw [hn] at hb; cases hb) (hg b o hb)
def fr (h h' : Heap) : Heap := fun b => match h b with
  | none => h' b
  | some _ => none
theorem fr_le (h h' : Heap) : Heap.le (fr h h') h' := by
  intro b o hb; simp only [fr] at hb; split at hb
  · exact hb
  · cases hb
theorem fr_none {h h' : Heap} {b : Nat} {o : Obj} (hb : h b = some o) : fr h h' b = none := by simp [fr, hb]
theorem le_none {g h : Heap} (hl : Heap.le g h) : ∀ b, h b = none → g b = none := by
  intro b hb
  cases hg : g b with
  | none => rfl
  | some o => rw [hl b o hg] at hb; cases hb
def join (g g' : Heap) : Heap := fun b => (g b).orElse fun _ => g' b
theorem join_le {g g' h : Heap} (h1 : Heap.le g h) (h2 : Heap.le g' h) : Heap.le (join g g') h := by
  intro b o hb
  simp only [join] at hb
  cases hg : g b with
  | none => rw [hg] at hb; exact h2 b o (by simpa using hb)
  | some o' => rw [hg] at hb; simp at hb; subst hb; exact h1 b _ hg
theorem join_none {g g' : Heap} {b : Nat} (h1 : g b = none) (h2 : g' b = none) : join g g' b = none := by simp [join, h1, h2]
theorem OwnS.grow {α : Type} {enc : α → List Value} {sz : Nat} {g h h1 : Heap} {v : Value} {l : List α} (ho : OwnS enc sz g h v l) (hl : Heap.le h h1) : OwnS enc sz (join g (fr h h1)) h1 v l := by
  obtain ⟨a0, a, cap, h2, h3, h4, h5⟩ := ho
  refine ⟨join_le (a0.trans hl) (fr_le _ _), a, cap, h2, h3, h4, h5.imp id ?_⟩
  rintro ⟨b, c, t, a1, a2, a3, a4⟩
  exact ⟨b, c, t, a1, join_none a2 (fr_none a3), hl _ _ a3, a4⟩
theorem Heap.set_ne {h : Heap} {b b' : Nat} {o : Obj} (e : b' ≠ b) : (h.set b o) b' = h b' := by simp [Heap.set, e]
theorem Heap.set_eq {h : Heap} {b : Nat} {o : Obj} : (h.set b o) b = some o := by simp [Heap.set]
theorem OwnS.set {α : Type} {enc : α → List Value} {sz : Nat} {g h : Heap} {v : Value} {l : List α} (ho : OwnS enc sz g h v l) {b : Nat} {o o' : Obj} (hb : g b = some o) : OwnS enc sz (g.set b o') (h.set b o') v l := by
  obtain ⟨a0, a, cap, h2, h3, h4, h5⟩ := ho
  refine ⟨?_, a, cap, h2, h3, h4, h5.imp id ?_⟩
  · intro x y hx
    by_cases e : x = b
    · subst e; rw [Heap.set_eq] at hx ⊢; exact hx
    · rw [Heap.set_ne e] at hx ⊢; exact a0 x y hx
  · rintro ⟨b', c, t, a1, a2, a3, a4⟩
    have e : b' ≠ b := by intro e; subst e; rw [hb] at a2; cases a2
    exact ⟨b', c, t, a1, by rw [Heap.set_ne e]; exact a2, by rw [Heap.set_ne e]; exact a3, a4⟩
theorem i_st {N : Num} {Γ : Ctx} {h : Heap} {a : Addr} {cs : List Value} (ho : objAt h a cs) (j n : Nat) {x : Value} (hx : x.cells.size = n) (h1 : x.cells.toList.all one = true) (hn : 0 < n) (hj : j + n ≤ cs.length) {K : Value → Heap → Prop}
    (hK : ∀ o, (∀ g : Heap, g a.block = h a.block → objAt (g.set a.block o) a (cs.take j ++ x.cells.toList ++ cs.drop (j + n))) → (∀ g : Heap, g a.block = h a.block → keeps a cs.length g (g.set a.block o)) → K undef (h.set a.block o)) :
    efW N Γ (.st n) [.pointer (some (a.add j)), x] h K := by
  obtain ⟨hs, c, t, h2, h3, h4⟩ := ho
  have hlen : x.cells.toList.length = n := by simp [hx]
  have hpg := fun i => putL_get c x.cells.toList (a.off + j) i (by omega)
  refine ⟨hx, h.set a.block (.cells (putL c (a.off + j) x.cells.toList) t (0, 0)), ?_, ?_⟩
  · rw [addr_add' a hs]
    cases hl : x.cells.toList with
    | nil => rw [hl] at hlen; simp at hlen; omega
    | cons y ys =>
      have h5 : a.off + j + (y :: ys).length ≤ c.size := by rw [← hl]; omega
      have h6 : (y :: ys).all one = true := by rw [← hl]; exact h1
      simp only [putRow, Option.isSome_none, Bool.false_eq_true, if_false, h2]
      rw [if_pos ⟨h5, h6⟩]
  · refine hK _ (fun g hg => ⟨hs, _, t, Heap.set_eq, ?_, ?_⟩) (fun g hg => ⟨?_, ?_⟩)
    · rw [(hpg 0).1]; simp only [List.length_append, List.length_take, List.length_drop, hlen]; omega
    · intro i hi
      simp only [List.length_append, List.length_take, List.length_drop, hlen] at hi
      rw [(hpg _).2]
      by_cases e : a.off + j ≤ a.off + i ∧ a.off + i < a.off + j + x.cells.toList.length
      · rw [if_pos e, List.append_assoc, List.getElem?_append_right (by simp; omega), List.getElem?_append_left (by simp only [List.length_take]; omega)]
        congr 1; simp only [List.length_take]; omega
      · rw [if_neg e, h4 i (by omega)]
        by_cases e2 : i < j
        · rw [List.append_assoc, List.getElem?_append_left (by simp only [List.length_take]; omega), List.getElem?_take_of_lt e2]
        · rw [List.getElem?_append_right (by simp only [List.length_append, List.length_take, hlen]; omega)]
          rw [List.getElem?_drop]
          congr 1; simp only [List.length_append, List.length_take, hlen]; omega
    · intro b o hb h5; rw [Heap.set_ne hb]; exact h5
    · intro c' t' fz h5
      rw [hg, h2] at h5
      cases h5
      refine ⟨_, Heap.set_eq, (hpg 0).1, fun i hi => ?_⟩
      rw [(hpg i).2, if_neg (by omega)]
theorem i_newO {N : Num} {Γ : Ctx} {h : Heap} {t : Nat} {x : Value} {K : Value → Heap → Prop}
    (hx : ∀ b h', Heap.le h h' → h b = none → objAt (fr h h') ⟨b, 0, none⟩ x.cells.toList → K (.pointer (some ⟨b, 0, none⟩)) h') : efW N Γ (.new t) [x] h K := by
  intro b hb
  refine hx b _ ((Heap.le.refl h).new hb _) hb ⟨rfl, x.cells, N.tid t, ?_, by simp, fun i hi => by simp⟩
  simp [fr, hb, Heap.set]
end Go.Cw
namespace Go.Cw
open Go
def disj (f g : Heap) : Prop := ∀ b, f b ≠ none → g b = none
theorem disj.symm {f g : Heap} (h : disj f g) : disj g f := by
  intro b hb
  cases hf : f b with
  | none => rfl
  | some o => exact absurd (h b (by rw [hf]; simp)) hb
structure Step (g h g' h' : Heap) : Prop where
  le : Heap.le g' h'
  frame : ∀ b o, h b = some o → g b = none → h' b = some o
  fresh : ∀ b, h b ≠ none → g b = none → g' b = none
theorem Step.refl {g h : Heap} (hl : Heap.le g h) : Step g h g h := ⟨hl, fun _ _ h _ => h, fun _ _ h => h⟩
theorem Step.trans {g h g' h' g'' h'' : Heap} (a : Step g h g' h') (b : Step g' h' g'' h'') : Step g h g'' h'' := by
  refine ⟨b.le, fun x o h1 h2 => ?_, fun x h1 h2 => ?_⟩
  · exact b.frame x o (a.frame x o h1 h2) (a.fresh x (by rw [h1]; simp) h2)
  · refine b.fresh x ?_ (a.fresh x h1 h2)
    cases hx : h x with
    | none => exact absurd hx h1
    | some o => rw [a.frame x o hx h2]; simp
theorem Step.keep {g h g' h' f : Heap} (a : Step g h g' h') (hf : Heap.le f h) (hd : disj f g) : Heap.le f h' ∧ disj f g' := by
  refine ⟨fun b o hb => a.frame b o (hf b o hb) (hd b (by rw [hb]; simp)), fun b hb => ?_⟩
  cases hfb : f b with
  | none => exact absurd hfb hb
  | some o => exact a.fresh b (by rw [hf b o hfb]; simp) (hd b hb)
theorem Step.alloc {g h h' : Heap} (hg : Heap.le g h) (hl : Heap.le h h') : Step g h (join g (fr h h')) h' := by
  refine ⟨join_le (hg.trans hl) (fr_le _ _), fun b o h1 _ => hl b o h1, fun b h1 h2 => ?_⟩
  cases hb : h b with
  | none => exact absurd hb h1
  | some o => exact join_none h2 (fr_none hb)
theorem Step.more {g h h' : Heap} (hg : Heap.le g h) (hl : Heap.le h h') : Step g h g h' := ⟨hg.trans hl, fun b o h1 _ => hl b o h1, fun _ _ h => h⟩
theorem Step.set {g h : Heap} (hg : Heap.le g h) {b : Nat} (hb : g b ≠ none) (o : Obj) : Step g h (g.set b o) (h.set b o) := by
  refine ⟨?_, fun x y h1 h2 => ?_, fun x h1 h2 => ?_⟩
  · intro x y hx
    by_cases e : x = b
    · subst e; rw [Heap.set_eq] at hx ⊢; exact hx
    · rw [Heap.set_ne e] at hx ⊢; exact hg x y hx
  · have e : x ≠ b := by intro e; subst e; exact hb h2
    rw [Heap.set_ne e]; exact h1
  · have e : x ≠ b := by intro e; subst e; exact hb h2
    rw [Heap.set_ne e]; exact h2
theorem Step.part {g h g' h' f : Heap} (a : Step g h g' h') (hf : Heap.le f h) (hd : disj f g) : Step (join f g) h (join f g') h' := by
  obtain ⟨k1, k2⟩ := a.keep hf hd
  refine ⟨join_le k1 a.le, fun b o h1 h2 => ?_, fun b h1 h2 => ?_⟩
  · have hg : g b = none := by
      simp only [join] at h2
      cases hfb : f b with
      | none => rw [hfb] at h2; simpa using h2
      | some x => rw [hfb] at h2; simp at h2
    exact a.frame b o h1 hg
  · have hfb : f b = none := by
      cases hfb : f b with
      | none => rfl
      | some x => simp only [join, hfb] at h2; simp at h2
    have hg : g b = none := by simp only [join, hfb] at h2; simpa using h2
    exact join_none hfb (a.fresh b h1 hg)
section
variable {κ ν : Type} [DecidableEq κ]
class KeyOk (kb : Bk) (ek : κ → Value) : Prop where
  eq : ∀ a b, cellEq kb (ek a) (ek b) = some (decide (a = b))
def encKS (s : List UInt8) : Value := .string (str s)
def encKI (n : Int) : Value := .int .i64 n
instance : KeyOk .str encKS where
  eq := by intro a b; simp [cellEq, encKS, str_beq]
instance : KeyOk .int encKI where
  eq := by
    intro a b
    simp only [cellEq, encKI, if_true]
    rfl
def lookI : List (κ × ν) → κ → Nat → Option (Nat × ν)
  | [], _, _ => none
  | p :: r, k, i => if k = p.1 then some (i, p.2) else lookI r k (i + 1)
def look (kv : List (κ × ν)) (k : κ) : Option ν := (lookI kv k 0).map (·.2)
def upd : List (κ × ν) → κ → ν → List (κ × ν)
  | [], k, v => [(k, v)]
  | p :: r, k, v => if k = p.1 then (k, v) :: r else p :: upd r k v
theorem lookI_shift (kv : List (κ × ν)) (k : κ) : ∀ (i j : Nat), lookI kv k (i + j) = (lookI kv k i).map fun p => (p.1 + j, p.2) := by
  induction kv with
  | nil => intro i j; rfl
  | cons p r ih =>
    intro i j
    simp only [lookI]
    split
    · rfl
    · rw [show i + j + 1 = (i + 1) + j by omega, ih]
theorem look_nil (k : κ) : look ([] : List (κ × ν)) k = none := rfl
theorem look_cons (p : κ × ν) (r : List (κ × ν)) (k : κ) : look (p :: r) k = if k = p.1 then some p.2 else look r k := by
  unfold look
  simp only [lookI]
  split
  · rfl
  · have := lookI_shift r k 0 1
    rw [this]; cases lookI r k 0 <;> rfl
theorem look_upd (kv : List (κ × ν)) (k k' : κ) (v : ν) : look (upd kv k v) k' = if k' = k then some v else look kv k' := by
  induction kv with
  | nil => simp only [upd, look_cons, look_nil]
  | cons p r ih =>
    simp only [upd]
    split
    · rename_i e; subst e
      simp only [look_cons]
      split
      · rfl
      · rfl
    · rename_i e
      simp only [look_cons, ih]
      by_cases e1 : k' = p.1
      · have e2 : k' ≠ k := by intro e3; exact e (e3.symm.trans e1)
        rw [if_pos e1, if_neg e2, if_pos e1]
      · rw [if_neg e1, if_neg e1]
def mkE (ek : κ → Value) (ev : ν → Value) (p : κ × ν) (b : Nat) : MapEntry := { key := ek p.1, val := ev p.2, born := b }
def MapB (ek : κ → Value) (ev : ν → Value) (g : Heap) (m : Nat) (kv : List (κ × ν)) (bs : List Nat) (ck : Nat) : Prop :=
  ∃ es : Array MapEntry, g m = some (.map es ck) ∧ es.toList = List.zipWith (mkE ek ev) kv bs ∧ bs.length = kv.length ∧ bs.Nodup ∧ (∀ b ∈ bs, b < ck) ∧ (kv.map (·.1)).Nodup
omit [DecidableEq κ] in
theorem MapB.le {ek : κ → Value} {ev : ν → Value} {g h : Heap} {m : Nat} {kv : List (κ × ν)} {bs : List Nat} {ck : Nat} (hm : MapB ek ev g m kv bs ck) (hl : Heap.le g h) : MapB ek ev h m kv bs ck := by
  obtain ⟨es, h1, h2⟩ := hm; exact ⟨es, hl _ _ h1, h2⟩
theorem findE_eq {kb : Bk} {ek : κ → Value} [hk : KeyOk kb ek] {ev : ν → Value} (k : κ) : ∀ (kv : List (κ × ν)) (bs : List Nat) (i : Nat), bs.length = kv.length →
    findE kb (ek k) (List.zipWith (mkE ek ev) kv bs) i = some ((lookI kv k i).map fun p => (p.1, ev p.2)) := by
  intro kv
  induction kv with
  | nil => intro bs i h; cases bs <;> rfl
  | cons p r ih =>
    intro bs i h
    cases bs with
    | nil => simp at h
    | cons b bs =>
      simp only [List.zipWith_cons_cons, findE, mkE, hk.eq, lookI]
      by_cases e : k = p.1
      · simp [e]
      · simp only [e, decide_false, if_false]
        exact ih bs (i + 1) (by simpa using h)
theorem MapB.rules (kb : Bk) {ek : κ → Value} [KeyOk kb ek] {ev : ν → Value} {h : Heap} {m : Nat} {kv : List (κ × ν)} {bs : List Nat} {ck : Nat} (hm : MapB ek ev h m kv bs ck) :
    (∀ z k, o2V h (.lkp kb z) (.v (.map (some m))) (.v (ek k)) = some (.v (match look kv k with | some x => ev x | none => z))) ∧
    (∀ z k, o2V h (.lkpo kb z) (.v (.map (some m))) (.v (ek k)) = some (.v (match look kv k with | some x => .tuple #[ev x, .bool true] | none => .tuple #[z, .bool false]))) ∧
    (∀ N env, o1V N env h .mlen (.v (.map (some m))) = some (.v (.int .i64 kv.length))) := by
  obtain ⟨es, h1, h2, h3, h4, h5, h6⟩ := hm
  have he : entriesOf h (.map (some m)) = some (List.zipWith (mkE ek ev) kv bs) := by simp [entriesOf, h1, h2]
  refine ⟨fun z k => ?_, fun z k => ?_, fun N env => ?_⟩
  · simp only [o2V, he, Option.bind_some, findE_eq k kv bs 0 h3, Option.map_some, look]
    cases lookI kv k 0 <;> rfl
  · simp only [o2V, he, Option.bind_some, findE_eq k kv bs 0 h3, Option.map_some, look]
    cases lookI kv k 0 <;> rfl
  · simp only [o1V, he, Option.map_some, List.length_zipWith, h3, Nat.min_self]
end
end Go.Cw
namespace Go.Cw
open Go
def blkOf : Value → Option Nat
  | .slice (some a) _ _ => some a.block
  | _ => none
def SlB {α : Type} (enc : α → List Value) (sz : Nat) (g : Heap) (v : Value) (l : List α) : Prop :=
  ∃ a cap, v = .slice a l.length cap ∧ l.length ≤ cap ∧ cap ≤ maxLen ∧
    ((a = none ∧ l = [] ∧ cap = 0) ∨ ∃ b c t, a = some ⟨b, 0, none⟩ ∧ g b = some (.cells c t (0, 0)) ∧ c.size = cap * sz ∧ ∀ i, i < (l.flatMap enc).length → c[i]? = (l.flatMap enc)[i]?)
theorem SlB.own {α : Type} {enc : α → List Value} {sz : Nat} {g h0 : Heap} {v : Value} {l : List α} (hs : SlB enc sz g v l) (hl : Heap.le h0 g) (hb : ∀ b, blkOf v = some b → h0 b = none) : OwnS enc sz h0 g v l := by
  obtain ⟨a, cap, rfl, h1, h2, h3⟩ := hs
  refine ⟨hl, a, cap, rfl, h1, h2, h3.imp id ?_⟩
  rintro ⟨b, c, t, rfl, h4, h5, h6⟩
  exact ⟨b, c, t, rfl, hb b rfl, h4, h5, h6⟩
theorem SlB.nil {α : Type} {enc : α → List Value} {sz : Nat} {g : Heap} : SlB enc sz g (.slice none 0 0) ([] : List α) := ⟨none, 0, rfl, by simp, by simp [maxLen], .inl ⟨rfl, rfl, rfl⟩⟩
theorem SlB.mem {α : Type} {enc : α → List Value} {sz : Nat} {g : Heap} {v : Value} {l : List α} (hs : SlB enc sz g v l) {b : Nat} (hb : blkOf v = some b) : g b ≠ none := by
  obtain ⟨a, cap, rfl, h1, h2, h3⟩ := hs
  rcases h3 with ⟨rfl, _⟩ | ⟨b', c, t, rfl, h3, _⟩
  · simp [blkOf] at hb
  · simp only [blkOf, Option.some.injEq] at hb; subst hb; rw [h3]; simp
theorem SlB.same {α : Type} {enc : α → List Value} {sz : Nat} {g g' : Heap} {v : Value} {l : List α} (hs : SlB enc sz g v l) (hb : ∀ b, blkOf v = some b → g' b = g b) : SlB enc sz g' v l := by
  obtain ⟨a, cap, rfl, h1, h2, h3⟩ := hs
  refine ⟨a, cap, rfl, h1, h2, h3.imp id ?_⟩
  rintro ⟨b, c, t, rfl, h4, h5, h6⟩
  exact ⟨b, c, t, rfl, by rw [hb b rfl]; exact h4, h5, h6⟩
theorem SlB.le {α : Type} {enc : α → List Value} {sz : Nat} {g g' : Heap} {v : Value} {l : List α} (hs : SlB enc sz g v l) (hl : Heap.le g g') : SlB enc sz g' v l := by
  refine hs.same fun b hb => ?_
  cases hg : g b with
  | none => exact absurd hg (hs.mem hb)
  | some o => exact hl b o hg
theorem SlB.sl {α : Type} {enc : α → List Value} {sz : Nat} (he : ∀ x, (enc x).length = sz) {g : Heap} {v : Value} {l : List α} (hs : SlB enc sz g v l) : Sl enc g v l := by
  have := hs.own (h0 := fun _ => none) (fun b o h => by cases h) (fun _ _ => rfl)
  exact this.sl he
theorem SlB.one {α : Type} {enc : α → List Value} {sz : Nat} {g : Heap} {v : Value} {l : List α} (hs : SlB enc sz g v l) : Cw.one v = true ∧ v.cells = #[v] := by
  obtain ⟨a, cap, rfl, _⟩ := hs; exact ⟨rfl, rfl⟩
end Go.Cw
namespace Go.Cw
open Go
structure Si where
  place : Int
  strength : Int
  time : Int
  tag : List UInt8
  deriving DecidableEq, Inhabited
def Si.enc (s : Si) : List Value := [.int .i64 s.place, .int .i64 s.strength, .int .i64 s.time, .string (str s.tag)]
def Si.bad (s : Si) : Prop := s.place < 0 ∨ 7 < s.place ∨ s.strength < 0 ∨ 255 < s.strength
instance Si.decBad (s : Si) : Decidable s.bad := by unfold Si.bad; infer_instance
def seen (l : List Si) (tag : List UInt8) (p : Int) : Prop := ∃ s ∈ l, s.tag = tag ∧ s.place = p
instance (l : List Si) (tag : List UInt8) (p : Int) : Decidable (seen l tag p) := by unfold seen; infer_instance
def sumS (l : List Si) (tag : List UInt8) (p : Int) : Int := ((l.filter fun s => decide (s.tag = tag ∧ s.place = p)).map (·.strength)).sum
def toldIn (l : List Si) (tag : List UInt8) : Prop := ∃ s ∈ l, s.tag = tag
instance (l : List Si) (tag : List UInt8) : Decidable (toldIn l tag) := by unfold toldIn; infer_instance
abbrev Ep := List (List UInt8 × List (Int × Int))
def addS (E : Ep) (s : Si) : Ep := upd E s.tag (upd ((look E s.tag).getD []) s.place ((look ((look E s.tag).getD []) s.place).getD 0 + s.strength))
def tellE (l : List Si) : Ep := l.foldl addS []
def cntE (W : List (List Si)) (tag : List UInt8) (p : Int) : Nat := (W.filter fun l => decide (seen l tag p)).length
def strE (W : List (List Si)) (tag : List UInt8) (p : Int) : Int := (W.map fun l => sumS l tag p).sum
def bestTo (need : Nat) (cnt : Int → Nat) (st : Int → Int) : Nat → Int
  | 0 => -1
  | p + 1 => if cnt p < need then bestTo need cnt st p else if bestTo need cnt st p < 0 ∨ cnt (bestTo need cnt st p) < cnt p ∨ (cnt p = cnt (bestTo need cnt st p) ∧ st (bestTo need cnt st p) < st p) then p else bestTo need cnt st p
def atW (need : Nat) (W : List (List Si)) (tag : List UInt8) : Int := bestTo need (cntE W tag) (strE W tag) 8
def atE (window need : Nat) (EL : List (List Si)) (tag : List UInt8) : Int := atW need (EL.drop (EL.length - window)) tag
theorem cntE_snoc (W : List (List Si)) (l : List Si) (tag : List UInt8) (p : Int) : cntE (W ++ [l]) tag p = cntE W tag p + if seen l tag p then 1 else 0 := by
  unfold cntE; rw [List.filter_append, List.length_append]; by_cases h : seen l tag p <;> simp [h]
end Go.Cw
namespace Go.Cw
open Go
def mapV (b : Nat) : Value := .map (some b)
def encM (b : Nat) : List Value := [mapV b]
def EpR (g : Heap) (m : Nat) (E : Ep) : Prop := ∃ kv bs ck, MapB encKS mapV g m kv bs ck ∧ (∀ tag, look kv tag = none ↔ look E tag = none) ∧
  ∀ tag b, look kv tag = some b → ∃ pl bs ck, look E tag = some pl ∧ MapB encKI encKI g b pl bs ck
theorem EpR.le {g h : Heap} {m : Nat} {E : Ep} (he : EpR g m E) (hl : Heap.le g h) : EpR h m E := by
  obtain ⟨kv, bs, ck, h1, h2, h3⟩ := he
  exact ⟨kv, bs, ck, h1.le hl, h2, fun tag b hb => let ⟨pl, bs, ck, a, c⟩ := h3 tag b hb; ⟨pl, bs, ck, a, c.le hl⟩⟩
structure TrR (h : Heap) (a : Addr) (window need : Nat) (EL : List (List Si)) : Prop where
  ex : ∃ ev wv ems, objAt h a [.int .i64 window, .int .i64 need, ev, wv] ∧ Sl encM h ev ems ∧ ems.length = EL.length ∧ ∀ i, i < EL.length → EpR h (ems.getD i 0) (tellE (EL.getD i []))
theorem Sl.lsl {α : Type} {enc : α → List Value} {sz : Nat} (he : ∀ x, (enc x).length = sz) {h : Heap} {v : Value} {l : List α} (hs : Sl enc h v l) {lo hi : Nat} (h1 : lo ≤ hi) (h2 : hi ≤ l.length) :
    ∃ v', (∀ k k', o3V (.lsl sz) (.v v) (.v (.int k lo)) (.v (.int k' hi)) = some (.v v')) ∧ Sl enc h v' ((l.take hi).drop lo) := by
  obtain ⟨a, cap, rfl, hcap, hr⟩ := hs
  refine ⟨.slice (if cap = lo then a else a.map (·.add (lo * sz))) (hi - lo) (cap - lo), ?_, ?_⟩
  · intro k k'
    simp only [o3V]
    rw [if_pos ⟨by omega, by omega, by omega⟩]
    simp
  · have hlen : ((l.take hi).drop lo).length = hi - lo := by rw [List.length_drop, List.length_take]; omega
    refine ⟨_, cap - lo, by rw [hlen], by rw [hlen]; omega, ?_⟩
    by_cases hz : hi = lo
    · exact .inl (List.eq_nil_of_length_eq_zero (by omega))
    · have hne : l ≠ [] := by intro e; subst e; simp at h2; omega
      obtain ⟨g, rfl, hrow⟩ := hr.resolve_left hne
      have hc : cap ≠ lo := by omega
      refine .inr ⟨g.add (lo * sz), by simp [hc], ?_⟩
      obtain ⟨r1, c, t, fz, r2, r3, r4⟩ := hrow
      have e1 : (l.take hi).drop lo = (l.drop lo).take (hi - lo) := by rw [List.drop_take]
      have hsplit : l.flatMap enc = (l.take lo).flatMap enc ++ (((l.drop lo).take (hi - lo)).flatMap enc ++ ((l.drop lo).drop (hi - lo)).flatMap enc) := by
        rw [← List.flatMap_append, ← List.flatMap_append, List.take_append_drop, List.take_append_drop]
      have hl1 : ((l.take lo).flatMap enc).length = lo * sz := by rw [flat_len he, List.length_take]; congr 1; omega
      have hl2 := congrArg List.length hsplit
      simp only [List.length_append] at hl2
      rw [e1, addr_add' g r1]
      refine ⟨rfl, c, t, fz, r2, by dsimp only; omega, fun i hi' => ?_⟩
      have := r4 (lo * sz + i) (by omega)
      dsimp only
      rw [show g.off + lo * sz + i = g.off + (lo * sz + i) by omega, this, hsplit, List.getElem?_append_right (by omega), List.getElem?_append_left (by omega)]
      congr 1; omega
end Go.Cw
namespace Go.Cw
open Go
def EpW (g : Heap) (m : Nat) (E : Ep) : Prop := ∃ kv bs ck, MapB encKS mapV g m kv bs ck ∧ (∀ tag, look kv tag = none ↔ look E tag = none) ∧
  (∀ tag b, look kv tag = some b → b ≠ m ∧ ∃ pl bs ck, look E tag = some pl ∧ MapB encKI encKI g b pl bs ck) ∧ ∀ tag tag' b, look kv tag = some b → look kv tag' = some b → tag = tag'
theorem EpW.r {g : Heap} {m : Nat} {E : Ep} (h : EpW g m E) : EpR g m E := by
  obtain ⟨kv, bs, ck, h1, h2, h3, _⟩ := h
  exact ⟨kv, bs, ck, h1, h2, fun tag b hb => (h3 tag b hb).2⟩
theorem EpW.le {g g' : Heap} {m : Nat} {E : Ep} (h : EpW g m E) (hl : Heap.le g g') : EpW g' m E := by
  obtain ⟨kv, bs, ck, h1, h2, h3, h4⟩ := h
  exact ⟨kv, bs, ck, h1.le hl, h2, fun tag b hb => let ⟨n, pl, bs, ck, a, c⟩ := h3 tag b hb; ⟨n, pl, bs, ck, a, c.le hl⟩, h4⟩
theorem MapB.set_ne {κ ν : Type} {ek : κ → Value} {ev : ν → Value} {g : Heap} {m b : Nat} {o : Obj} {kv : List (κ × ν)} {bs : List Nat} {ck : Nat} (h : MapB ek ev g m kv bs ck) (e : m ≠ b) : MapB ek ev (g.set b o) m kv bs ck := by
  obtain ⟨es, h1, h2⟩ := h; exact ⟨es, by rw [Heap.set_ne e]; exact h1, h2⟩
theorem MapB.mem {κ ν : Type} {ek : κ → Value} {ev : ν → Value} {g : Heap} {m : Nat} {kv : List (κ × ν)} {bs : List Nat} {ck : Nat} (h : MapB ek ev g m kv bs ck) : g m ≠ none := by
  obtain ⟨es, h1, _⟩ := h; rw [h1]; simp
theorem objAt.set_ne {g : Heap} {a : Addr} {b : Nat} {o : Obj} {cs : List Value} (h : objAt g a cs) (e : a.block ≠ b) : objAt (g.set b o) a cs := by
  obtain ⟨x1, c, t, x2, x3⟩ := h; exact ⟨x1, c, t, by rw [Heap.set_ne e]; exact x2, x3⟩
theorem objAt.mem {g : Heap} {a : Addr} {cs : List Value} (h : objAt g a cs) : g a.block ≠ none := by
  obtain ⟨x1, c, t, x2, x3⟩ := h; rw [x2]; simp
theorem EpW.put {g : Heap} {m b : Nat} {E : Ep} {o : Obj} {kv : List (List UInt8 × Nat)} {bs bs' : List Nat} {ck ck' : Nat} {tag : List UInt8} {pl : List (Int × Int)} (hm : MapB encKS mapV g m kv bs ck) (hk : ∀ tag, look kv tag = none ↔ look E tag = none)
    (h3 : ∀ tag b, look kv tag = some b → b ≠ m ∧ ∃ pl bs ck, look E tag = some pl ∧ MapB encKI encKI g b pl bs ck) (h4 : ∀ tag tag' b, look kv tag = some b → look kv tag' = some b → tag = tag')
    (hb : look kv tag = some b) (hn : MapB encKI encKI (g.set b o) b pl bs' ck') : EpW (g.set b o) m (upd E tag pl) := by
  have hbm := (h3 tag b hb).1
  refine ⟨kv, bs, ck, hm.set_ne (Ne.symm hbm), fun t => ?_, fun t x hx => ?_, h4⟩
  · rw [look_upd]
    split
    · rename_i e; subst e; rw [hb]; simp
    · exact hk t
  · obtain ⟨n, pl', bs2, ck2, a, c⟩ := h3 t x hx
    refine ⟨n, ?_⟩
    by_cases e : t = tag
    · subst e
      rw [hb] at hx; cases hx
      exact ⟨pl, bs', ck', by rw [look_upd, if_pos rfl], hn⟩
    · have hne : x ≠ b := by rintro rfl; exact e (h4 t tag x hx hb)
      exact ⟨pl', bs2, ck2, by rw [look_upd, if_neg e]; exact a, c.set_ne hne⟩
def toldE (EL : List (List Si)) (tag : List UInt8) : Prop := ∃ l ∈ EL, toldIn l tag
instance (EL : List (List Si)) (tag : List UInt8) : Decidable (toldE EL tag) := by unfold toldE; infer_instance
structure TrG (g : Heap) (b : Nat) (window need : Nat) (EL : List (List Si)) (W : List UInt8 → Option (List Int)) (hole : Option (List UInt8)) (ev : Value) (mw : Nat) (wkv : List (List UInt8 × Value)) (bs : List Nat) (ck : Nat) (gi : Heap) (ems : List Nat) : Prop where
  obj : objAt g ⟨b, 0, none⟩ [.int .i64 window, .int .i64 need, ev, .map (some mw)]
  evs : SlB encM 1 g ev ems
  wm : MapB encKS id g mw wkv bs ck
  wnone : ∀ tag, look wkv tag = none → W tag = none
  wsome : ∀ tag v, look wkv tag = some v → some tag ≠ hole → ∃ l x, W tag = some l ∧ SlB encI 1 g v l ∧ blkOf v = some x ∧ x ≠ b ∧ x ≠ mw ∧ blkOf ev ≠ some x ∧ gi x = none
  inj : ∀ tag tag' v v', look wkv tag = some v → look wkv tag' = some v' → some tag ≠ hole → some tag' ≠ hole → blkOf v = blkOf v' → tag = tag'
  d1 : b ≠ mw
  d2 : blkOf ev ≠ some b ∧ blkOf ev ≠ some mw
  elen : ems.length = EL.length
  eps : ∀ i, i < EL.length → EpR gi (ems.getD i 0) (tellE (EL.getD i []))
  gile : Heap.le gi g
  gib : gi b = none
  gim : gi mw = none
  gie : ∀ x, blkOf ev = some x → gi x = none
theorem TrG.le {g g' : Heap} {b window need : Nat} {EL : List (List Si)} {W : List UInt8 → Option (List Int)} {hole : Option (List UInt8)} {ev : Value} {mw : Nat} {wkv : List (List UInt8 × Value)} {bs : List Nat} {ck : Nat} {gi : Heap} {ems : List Nat}
    (h : TrG g b window need EL W hole ev mw wkv bs ck gi ems) (hl : Heap.le g g') : TrG g' b window need EL W hole ev mw wkv bs ck gi ems :=
  ⟨objAt.le h.obj hl, h.evs.le hl, h.wm.le hl, h.wnone, fun t v hv hh => let ⟨l, x, a1, a2, a3⟩ := h.wsome t v hv hh; ⟨l, x, a1, a2.le hl, a3⟩, h.inj, h.d1, h.d2, h.elen, h.eps, h.gile.trans hl, h.gib, h.gim, h.gie⟩
theorem TrG.r {g : Heap} {b window need : Nat} {EL : List (List Si)} {W : List UInt8 → Option (List Int)} {hole : Option (List UInt8)} {ev : Value} {mw : Nat} {wkv : List (List UInt8 × Value)} {bs : List Nat} {ck : Nat} {gi : Heap} {ems : List Nat}
    (h : TrG g b window need EL W hole ev mw wkv bs ck gi ems) {hh : Heap} (hl : Heap.le g hh) : TrR hh ⟨b, 0, none⟩ window need EL :=
  ⟨ev, _, ems, objAt.le h.obj hl, (SlB.sl (enc := encM) (sz := 1) (fun _ => rfl) h.evs).le hl, h.elen, fun i hi => (h.eps i hi).le (h.gile.trans hl)⟩
theorem TrG.put {g : Heap} {b window need : Nat} {EL : List (List Si)} {W : List UInt8 → Option (List Int)} {hole : Option (List UInt8)} {ev : Value} {mw : Nat} {wkv : List (List UInt8 × Value)} {bs bs' : List Nat} {ck ck' : Nat} {gi : Heap} {ems : List Nat}
    (h : TrG g b window need EL W hole ev mw wkv bs ck gi ems) {tag : List UInt8} (hh : hole = none ∨ hole = some tag) {v : Value} {l : List Int} {x : Nat} (hv : SlB encI 1 g v l) (hx : blkOf v = some x) (x1 : x ≠ b) (x2 : x ≠ mw) (x3 : blkOf ev ≠ some x) (x4 : gi x = none)
    (x5 : ∀ t w, look wkv t = some w → t ≠ tag → blkOf w ≠ some x) {o : Obj} (hm : MapB encKS id (g.set mw o) mw (upd wkv tag v) bs' ck') :
    TrG (g.set mw o) b window need EL (fun t => if t = tag then some l else W t) none ev mw (upd wkv tag v) bs' ck' gi ems := by
  have hne : ∀ t, t ≠ tag → some t ≠ hole := by
    intro t ht e
    rcases hh with h0 | h0
    · rw [h0] at e; cases e
    · rw [h0] at e; cases e; exact ht rfl
  refine ⟨h.obj.set_ne h.d1, h.evs.same (fun y hy => Heap.set_ne (fun e => h.d2.2 (by rw [← e]; exact hy))), hm, fun t ht => ?_, fun t w hw _ => ?_, fun t t' w w' h1 h2 _ _ h3 => ?_, h.d1, h.d2, h.elen, h.eps, ?_, h.gib, h.gim, h.gie⟩
  · rw [look_upd] at ht
    split at ht
    · cases ht
    · rename_i e; simp only [e, if_false]; exact h.wnone t ht
  · rw [look_upd] at hw
    split at hw
    · rename_i e; cases hw
      exact ⟨l, x, by simp [e], hv.same (fun y hy => Heap.set_ne (fun e => x2 (by rw [hx] at hy; cases hy; exact e))), hx, x1, x2, x3, x4⟩
    · rename_i e
      obtain ⟨l', y, a1, a2, a3, a4, a5, a6⟩ := h.wsome t w hw (hne t e)
      exact ⟨l', y, by simp only [e, if_false]; exact a1, a2.same (fun z hz => Heap.set_ne (fun e2 => a5 (by rw [a3] at hz; cases hz; exact e2))), a3, a4, a5, a6⟩
  · rw [look_upd] at h1 h2
    split at h1 <;> split at h2
    · rename_i e1 e2; rw [e1, e2]
    · rename_i e1 e2; cases h1; rw [hx] at h3; exact absurd h3.symm (x5 t' w' h2 e2)
    · rename_i e1 e2; cases h2; rw [hx] at h3; exact absurd h3 (x5 t w h1 e1)
    · rename_i e1 e2; exact h.inj t t' w w' h1 h2 (hne t e1) (hne t' e2) h3
  · intro y oo hy
    have e : y ≠ mw := by rintro rfl; rw [h.gim] at hy; cases hy
    rw [Heap.set_ne e]; exact h.gile y oo hy
end Go.Cw
namespace Go.Cw
open Go
variable {g g' h : Heap} {b window need : Nat} {EL : List (List Si)} {W : List UInt8 → Option (List Int)} {hole : Option (List UInt8)} {ev : Value} {mw : Nat} {wkv : List (List UInt8 × Value)} {bs : List Nat} {ck : Nat} {gi gi' : Heap} {ems : List Nat}
theorem TrG.more (hT : TrG g b window need EL W hole ev mw wkv bs ck gi ems) (hl : Heap.le g g') (h1 : Heap.le gi gi') (h2 : Heap.le gi' g') (h3 : ∀ x, g x ≠ none → gi x = none → gi' x = none) :
    TrG g' b window need EL W hole ev mw wkv bs ck gi' ems := by
  have hT' := hT.le hl
  refine ⟨hT'.obj, hT'.evs, hT'.wm, hT.wnone, fun t v hv hh => ?_, hT.inj, hT.d1, hT.d2, hT.elen, fun i hi => (hT.eps i hi).le h1, h2, h3 _ hT.obj.mem hT.gib, h3 _ hT.wm.mem hT.gim, fun x hx => h3 _ (hT.evs.mem hx) (hT.gie x hx)⟩
  obtain ⟨l, x, a1, a2, a3, a4, a5, a6, a7⟩ := hT.wsome t v hv hh
  exact ⟨l, x, a1, a2.le hl, a3, a4, a5, a6, h3 _ (a2.mem a3) a7⟩
def HoleV (g : Heap) (b mw : Nat) (wkv : List (List UInt8 × Value)) (ev : Value) (gi : Heap) (tag : List UInt8) (v : Value) (l : List Int) : Prop :=
  SlB encI 1 g v l ∧ ∃ x, blkOf v = some x ∧ x ≠ b ∧ x ≠ mw ∧ blkOf ev ≠ some x ∧ gi x = none ∧ ∀ t w, look wkv t = some w → t ≠ tag → blkOf w ≠ some x
theorem HoleV.le {tag : List UInt8} {v : Value} {l : List Int} (h : HoleV g b mw wkv ev gi tag v l) (hl : Heap.le g g') : HoleV g' b mw wkv ev gi tag v l := ⟨h.1.le hl, h.2⟩
theorem HoleV.app {tag : List UInt8} {v v' : Value} {l l2 : List Int} (hT : TrG g b window need EL W (some tag) ev mw wkv bs ck gi ems) (hH : HoleV g b mw wkv ev gi tag v l) (hg : Heap.le g h) (hne : l2 ≠ [])
    (h1 : SlB encI 1 g' v' l2) (h2 : ∀ x, blkOf v ≠ some x → blkOf v' ≠ some x → g' x = g x) (h3 : ∀ x, blkOf v' = some x → blkOf v = some x ∨ h x = none) :
    TrG g' b window need EL W (some tag) ev mw wkv bs ck gi ems ∧ HoleV g' b mw wkv ev gi tag v' l2 := by
  obtain ⟨k1, x, k2, k3, k4, k5, k6, k7⟩ := hH
  have hno : ∀ y, h y = none → g y = none := le_none hg
  have hh : ∀ y, g y ≠ none → x ≠ y → blkOf v' ≠ some y := by
    intro y hy hn e
    rcases h3 y e with e2 | e2
    · rw [k2] at e2; cases e2; exact hn rfl
    · exact hy (hno y e2)
  have hsm : ∀ y, g y ≠ none → x ≠ y → g' y = g y := fun y hy hn => h2 y (by rw [k2]; intro e; cases e; exact hn rfl) (hh y hy hn)
  have hgb := hT.obj.mem
  have hgm := hT.wm.mem
  refine ⟨⟨?_, hT.evs.same fun y hy => hsm y (hT.evs.mem hy) (by rintro rfl; exact k5 hy), ?_, hT.wnone, fun t w hw hn => ?_, hT.inj, hT.d1, hT.d2, hT.elen, hT.eps, ?_, hT.gib, hT.gim, hT.gie⟩, h1, ?_⟩
  · obtain ⟨q1, c, t, q2, q3⟩ := hT.obj
    exact ⟨q1, c, t, by rw [hsm b hgb k3]; exact q2, q3⟩
  · obtain ⟨es, q1, q2⟩ := hT.wm
    exact ⟨es, by rw [hsm mw hgm k4]; exact q1, q2⟩
  · obtain ⟨l', y, a1, a2, a3, a4⟩ := hT.wsome t w hw hn
    exact ⟨l', y, a1, a2.same fun z hz => hsm z (a2.mem hz) (by rintro rfl; exact k7 t w hw (by rintro rfl; exact hn rfl) hz), a3, a4⟩
  · intro y o hy
    have hgy := hT.gile y o hy
    rw [hsm y (by rw [hgy]; simp) (by rintro rfl; rw [k6] at hy; cases hy)]; exact hgy
  · have hx' : ∃ x', blkOf v' = some x' := by
      obtain ⟨a, cap, rfl, _, _, h5⟩ := h1
      rcases h5 with ⟨_, h6, _⟩ | ⟨y, c, t, rfl, _⟩
      · exact absurd h6 hne
      · exact ⟨y, rfl⟩
    obtain ⟨x', hx'⟩ := hx'
    refine ⟨x', hx', ?_⟩
    rcases h3 x' hx' with e | e
    · rw [k2] at e; cases e; exact ⟨k3, k4, k5, k6, k7⟩
    · have e' := hno x' e
      refine ⟨by rintro rfl; exact hgb e', by rintro rfl; exact hgm e', fun e2 => hT.evs.mem e2 e', ?_, fun t w hw hn e2 => ?_⟩
      · cases hgx : gi x' with
        | none => rfl
        | some o => rw [hT.gile x' o hgx] at e'; cases e'
      · obtain ⟨l', y, a1, a2, a3, a4⟩ := hT.wsome t w hw (by intro e3; cases e3; exact hn rfl)
        exact a2.mem e2 e'
end Go.Cw
namespace Go.Cw
open Go
def wl (window need : Nat) (EL : List (List Si)) (tag : List UInt8) : List Int := (List.range EL.length).map fun e => atE window need (EL.take (e + 1)) tag
end Go.Cw
namespace Go.Cw
open Go
def newBad (w n : Int) : Prop := w < 1 ∨ 8 < w ∨ n < 1 ∨ w < n
instance (w n : Int) : Decidable (newBad w n) := by unfold newBad; infer_instance
end Go.Cw
namespace Go.Cw
open Go
def encV (v : Value) : List Value := [v]
def SS (h : Heap) (v : Value) (L : List (List Si)) : Prop := ∃ vs : List Value, Sl encV h v vs ∧ vs.length = L.length ∧ ∀ i, i < L.length → Sl Si.enc h (vs.getD i undef) (L.getD i [])
theorem SS.le {h h' : Heap} {v : Value} {L : List (List Si)} (hs : SS h v L) (hl : Heap.le h h') : SS h' v L := by
  obtain ⟨vs, h1, h2, h3⟩ := hs; exact ⟨vs, h1.le hl, h2, fun i hi => (h3 i hi).le hl⟩
end Go.Cw
namespace Go.Cw
open Go
structure RowI (who : List UInt8) (R : List (List Si)) (p : Int) (sn at_ one : Int) (single : Bool) : Prop where
  cnt : at_ = cntE R who p
  hn : sn = (R.filter fun l => !l.isEmpty).length
  ho : (one = -1 ∧ ∀ l ∈ R, l = []) ∨ ∃ l ∈ R, ∃ s ∈ l, s.place = one
  sg : single = true → ∀ l ∈ R, ∀ s ∈ l, s.place = one
structure RowJ (who : List UInt8) (R : List (List Si)) (row : List Si) (p : Int) (sn at_ one : Int) (single here : Bool) : Prop where
  cnt : at_ = cntE R who p
  hn : sn = (R.filter fun l => !l.isEmpty).length
  ho : (one = -1 ∧ ∀ l ∈ R ++ [row], l = []) ∨ ∃ l ∈ R ++ [row], ∃ s ∈ l, s.place = one
  sg : single = true → ∀ l ∈ R ++ [row], ∀ s ∈ l, s.place = one
  hr : here = true ↔ ∃ s ∈ row, s.place = p
theorem RowI.j {who : List UInt8} {R : List (List Si)} {p sn at_ one : Int} {single : Bool} (h : RowI who R p sn at_ one single) : RowJ who R [] p sn at_ one single false := by
  refine ⟨h.cnt, h.hn, ?_, ?_, by simp⟩
  · rcases h.ho with ⟨h1, h2⟩ | ⟨l, hl, s, hs, e⟩
    · refine .inl ⟨h1, fun l hl => ?_⟩
      rw [List.mem_append, List.mem_singleton] at hl
      exact hl.elim (h2 l) id
    · exact .inr ⟨l, by simp [hl], s, hs, e⟩
  · intro hs l hl s hsl
    rw [List.mem_append, List.mem_singleton] at hl
    rcases hl with hl | rfl
    · exact h.sg hs l hl s hsl
    · cases hsl
theorem RowJ.step {who : List UInt8} {R : List (List Si)} {row : List Si} {p sn at_ one : Int} {single here : Bool} (h : RowJ who R row p sn at_ one single here) (s : Si) {single' here' : Bool} (h0 : ∀ l ∈ R ++ [row], ∀ s ∈ l, 0 ≤ s.place)
    (h1 : single' = true → single = true ∧ (one < 0 ∨ one = s.place)) (h2 : here' = true ↔ here = true ∨ s.place = p) : RowJ who R (row ++ [s]) p sn at_ s.place single' here' := by
  refine ⟨h.cnt, h.hn, .inr ⟨row ++ [s], by simp, s, by simp, rfl⟩, fun hs l hl x hx => ?_, ?_⟩
  · obtain ⟨k1, k2⟩ := h1 hs
    have hmem : (∃ l' ∈ R ++ [row], x ∈ l') ∨ x = s := by
      rw [List.mem_append, List.mem_singleton] at hl
      rcases hl with hl | rfl
      · exact .inl ⟨l, by simp [hl], hx⟩
      · rw [List.mem_append, List.mem_singleton] at hx
        exact hx.imp (fun hx => ⟨row, by simp, hx⟩) id
    rcases hmem with ⟨l', hl', hx'⟩ | rfl
    · have e := h.sg k1 l' hl' x hx'
      have := h0 l' hl' x hx'
      omega
    · rfl
  · rw [h2, h.hr]
    constructor
    · rintro (⟨x, hx, e⟩ | e)
      · exact ⟨x, by simp [hx], e⟩
      · exact ⟨s, by simp, e⟩
    · rintro ⟨x, hx, e⟩
      rw [List.mem_append, List.mem_singleton] at hx
      rcases hx with hx | rfl
      · exact .inl ⟨x, hx, e⟩
      · exact .inr e
theorem RowJ.i {who : List UInt8} {R : List (List Si)} {row : List Si} {p sn at_ one : Int} {single here : Bool} (h : RowJ who R row p sn at_ one single here) (hw : ∀ s ∈ row, s.tag = who) :
    RowI who (R ++ [row]) p (sn + if 0 < row.length then 1 else 0) (at_ + if here = true then 1 else 0) one single := by
  refine ⟨?_, ?_, h.ho, h.sg⟩
  · rw [cntE_snoc, h.cnt]
    have : here = true ↔ seen row who p := by
      rw [h.hr]; exact ⟨fun ⟨s, hs, e⟩ => ⟨s, hs, hw s hs, e⟩, fun ⟨s, hs, _, e⟩ => ⟨s, hs, e⟩⟩
    by_cases e : seen row who p
    · rw [if_pos (this.2 e), if_pos e]; rfl
    · rw [if_neg (fun h => e (this.1 h)), if_neg e]; rfl
  · rw [List.filter_append, List.length_append, h.hn]
    cases row <;> simp
theorem RowI.zero (who : List UInt8) (p : Int) : RowI who [] p 0 0 (-1) true := ⟨rfl, rfl, .inl ⟨rfl, by simp⟩, by simp⟩
end Go.Cw
namespace Go.Cw
open Go
end Go.Cw
