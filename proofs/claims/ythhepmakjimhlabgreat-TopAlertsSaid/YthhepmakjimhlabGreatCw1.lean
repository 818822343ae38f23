/- Part 1 of the proof of TopAlerts: a small language for the program's functions, its soundness, and what the functions do. No conditions beyond the theorems' own. -/
import Derived.Test.YthhepmakjimhlabGreatCw0
import Derived.Below
import Derived.Deep.LoopGhost
import Derived.IntWalk
import Derived.Orders
import Derived.OrdersIn
import Derived.RangeFuncLeaves
import Derived.RangeFuncRecord
import Derived.RangeFuncSeq
import Derived.Sort.LoopGhostIn
set_option linter.unusedSimpArgs false
set_option linter.unusedVariables false
set_option maxRecDepth 20000
namespace Go.Cw
open Go
def condEx (m : Lmap) : Operand → Option Ex
  | .tmp t =>
    match idxOf t 0 m with
    | some (i, false) => some (.var i)
    | _ => none
  | .const (.bool b) => some (.con (.bool b))
  | _ => none
def exOf : SE → Exit
  | .normal => .normal
  | .exit id => .exit id
  | .ret => .ret
variable {P : Program} {N : Num} {tk fk : Nat → Option Nat} {Γ : Ctx}
def Lift (m : Lmap) (nt : Nat) (h0 : Heap) (w0 : World) (Q : SE → Env → Heap → Prop) (Q' : Exit → Act → World → Prop) : Prop :=
  ∀ e pb env h a w, Q e env h → Rel m nt h0 w0 pb env h a w → Q' (exOf e) a w
def Sound (P : Program) (N : Num) (Γ : Ctx) (m : Lmap) (nt : Nat) (s : St) (c : Code) : Prop :=
  ∀ (h0 : Heap) (w0 : World) (Q : SE → Env → Heap → Prop) (Q' : Exit → Act → World → Prop) (pb : Nat → Option Nat) (env : Env) (h : Heap) (a : Act) (w : World),
    SW N Γ s Q env h → Rel m nt h0 w0 pb env h a w → Lift m nt h0 w0 Q Q' → c.wp P Q' a w
theorem sound_reg (htk : ∀ t k, tk t = some k → N.tid k = t) (hfk : ∀ f k, fk f = some k → N.fid k = f) (hΓ : Good P N Γ) {m : Lmap} {nt : Nat} (hnd : (m.map (·.1)).Nodup) {id : Nat} {ops : Array Oper} {l : List Stg}
    (hl : stages P tk fk ops nt m [] (List.range ops.size) = some l) : Sound P N Γ m nt (.reg l) (.region id ops false) := by
  intro h0 w0 Q Q' pb env h a w hK hr hQ
  refine wp_region ?_
  have := stages_sound htk hfk hΓ hnd (Q := Q') (h0 := h0) (w0 := w0) (List.range ops.size) [] l pb env h a w (Q .normal) hl hr (by simpa only [SW] using hK) (fun pb env h a w hk hr => hQ .normal pb env h a w hk hr)
  simpa using this
theorem sound_seq {m : Lmap} {nt : Nat} {s t : St} {c d : Code} (hs : Sound P N Γ m nt s c) (ht : Sound P N Γ m nt t d) : Sound P N Γ m nt (.seq s t) (.seq c d) := by
  intro h0 w0 Q Q' pb env h a w hK hr hQ
  simp only [SW] at hK
  refine wp_seq (hs h0 w0 _ _ pb env h a w hK hr ?_)
  intro e pb env h a w hq hr
  cases e with
  | normal => exact ht h0 w0 Q Q' pb env h a w hq hr hQ
  | exit id => exact hQ (.exit id) pb env h a w hq hr
  | ret => exact hQ .ret pb env h a w hq hr
theorem sound_cond {m : Lmap} {nt : Nat} {s t : St} {c d : Code} {x : Operand} {e : Ex} (hx : condEx m x = some e) (hs : Sound P N Γ m nt s c) (ht : Sound P N Γ m nt t d) : Sound P N Γ m nt (.cond e s t) (.cond x c d) := by
  intro h0 w0 Q Q' pb env h a w hK hr hQ
  simp only [SW] at hK
  obtain ⟨b, hb, h1, h2⟩ := hK
  have hev : a.eval x = .bool b := by
    unfold condEx at hx
    split at hx
    · rename_i t'
      split at hx <;> cases hx
      rename_i i hi
      obtain ⟨j, rfl, hj⟩ := idxOf_spec m 0 _ _ hi
      simp only [ev, Option.map_eq_some_iff] at hb
      obtain ⟨v, h3, h4⟩ := hb
      cases h4
      rw [Nat.zero_add] at h3
      exact hr.plain j t' hj _ h3
    · cases hx
      simp only [ev] at hb; cases hb; rfl
    · cases hx
  cases b with
  | true => exact wp_cond_true hev (hs h0 w0 Q Q' pb env h a w (h1 rfl) hr hQ)
  | false => exact wp_cond_false hev (ht h0 w0 Q Q' pb env h a w (h2 rfl) hr hQ)
theorem sound_block {m : Lmap} {nt : Nat} {id : Nat} {s : St} {c : Code} (hs : Sound P N Γ m nt s c) : Sound P N Γ m nt (.block id s) (.block id c) := by
  intro h0 w0 Q Q' pb env h a w hK hr hQ
  simp only [SW] at hK
  refine wp_block (hs h0 w0 _ _ pb env h a w hK hr ?_)
  intro e pb env h a w hq hr
  cases e with
  | normal => exact hQ .normal pb env h a w hq hr
  | exit j =>
    simp only [exOf, Exit.inBlock]
    split
    · rename_i e; simp only [e, if_true] at hq; exact hQ .normal pb env h a w hq hr
    · rename_i e; simp only [e, if_false] at hq; exact hQ (.exit j) pb env h a w hq hr
  | ret => exact hQ .ret pb env h a w hq hr
theorem sound_loop {m : Lmap} {nt : Nat} {s : St} {c : Code} (hs : Sound P N Γ m nt s c) : Sound P N Γ m nt (.loop s) (.loop c) := by
  intro h0 w0 Q Q' pb env h a w hK hr hQ
  simp only [SW] at hK
  obtain ⟨I, n, hI, hround⟩ := hK
  refine wp_loop_ghost (fun n a w => ∃ pb env h, I n env h ∧ Rel m nt h0 w0 pb env h a w) n ⟨pb, env, h, hI, hr⟩ ?_
  rintro n a w ⟨pb, env, h, hI, hr⟩
  refine hs h0 w0 _ _ pb env h a w (hround n env h hI) hr ?_
  intro e pb env h a w hq hr
  cases e with
  | normal => obtain ⟨n', hlt, hI'⟩ := hq; exact ⟨n', hlt, pb, env, h, hI', hr⟩
  | exit id => exact hQ (.exit id) pb env h a w hq hr
  | ret => exact hQ .ret pb env h a w hq hr
theorem sound_exit {m : Lmap} {nt : Nat} {id : Nat} : Sound P N Γ m nt (.exit id) (.exit id) := fun _ _ _ _ _ _ _ _ _ hK hr hQ => wp_exit (hQ (.exit id) _ _ _ _ _ hK hr)
theorem sound_ret {m : Lmap} {nt : Nat} : Sound P N Γ m nt .ret .ret := fun _ _ _ _ _ _ _ _ _ hK hr hQ => wp_ret (hQ .ret _ _ _ _ _ hK hr)
theorem sound_skip {m : Lmap} {nt : Nat} : Sound P N Γ m nt .skip .skip := fun _ _ _ _ _ _ _ _ _ hK hr hQ => wp_skip (hQ .normal _ _ _ _ _ hK hr)
structure SFun where
  np : Nat
  nv : Nat
  body : St
  res : List Ex
  deriving Inhabited
def tup : List Value → Value
  | [v] => v
  | vs => .tuple vs.toArray
def env0 (nv : Nat) (args : List Value) : Env := args.map some ++ List.replicate (nv - args.length) none
def SF (N : Num) (Γ : Ctx) (F : SFun) (args : List Value) (h : Heap) (K : Value → Heap → Prop) : Prop :=
  args.length = F.np ∧ SW N Γ F.body (fun e env h' => match e with
    | .exit _ => False
    | _ => ∃ vs, evVals N env h' F.res = some vs ∧ K (tup vs) h') (env0 F.nv args) h
def resEx (P : Program) (m : Lmap) : List ResultVar → Option (List Ex)
  | [] => some []
  | .tmp t :: r =>
    match idxOf t 0 m, resEx P m r with
    | some (i, false), some l => some (.var i :: l)
    | _, _ => none
  | .cell t ty :: r =>
    match idxOf t 0 m, aggOf P ty, sizeOf' P ty, resEx P m r with
    | some (i, true), some false, some 1, some l => some (.o1 .ld (.pad i) :: l)
    | some (i, true), some true, some n, some l => some (.o1 (.ldn n) (.pad i) :: l)
    | _, _, _, _ => none
theorem res_sound {m : Lmap} {nt : Nat} {h0 : Heap} {w0 : World} {pb : Nat → Option Nat} {env : Env} {h : Heap} {a : Act} {w : World} (hr : Rel m nt h0 w0 pb env h a w)
    {f : ResultVar → Sem Value} (hf1 : ∀ t, f (.tmp t) = pure (a.tmps.getD t undef)) (hf2 : ∀ x t, f (.cell x t) = (do loadVar t (← asAddr (a.tmps.getD x undef)))) :
    ∀ (rs : List ResultVar) (es : List Ex) (vs : List Value), resEx P m rs = some es → evVals N env h es = some vs →
      (rs.mapM f).run P w = .ok vs w := by
  intro rs
  induction rs with
  | nil => intro es vs h1 h2; simp only [resEx] at h1; cases h1; simp only [evVals] at h2; cases h2; rfl
  | cons r rs ih =>
    intro es vs h1 h2
    cases r with
    | tmp t =>
      simp only [resEx] at h1
      split at h1 <;> cases h1
      rename_i i l hi hl
      simp only [evVals] at h2
      split at h2 <;> cases h2
      rename_i v vs' hv hvs
      obtain ⟨j, rfl, hj⟩ := idxOf_spec m 0 _ _ hi
      simp only [ev, Option.map_eq_some_iff, Nat.zero_add] at hv
      obtain ⟨v', h3, h4⟩ := hv
      cases h4
      simp only [List.mapM_cons, Sem.run_bind, hf1, Sem.run_pure, Result.andThen_ok, hr.plain j t hj _ h3, ih l vs' hl hvs]
    | cell x t =>
      simp only [resEx] at h1
      split at h1
      · cases h1
        rename_i i l hi ha hsz hl
        simp only [evVals] at h2
        split at h2 <;> cases h2
        rename_i v vs' hv hvs
        obtain ⟨j, rfl, hj⟩ := idxOf_spec m 0 _ _ hi
        obtain ⟨u, h3, h4⟩ := ev_o1 hv
        simp only [ev, Option.map_eq_some_iff, Nat.zero_add] at h3
        obtain ⟨v', h5, rfl⟩ := h3
        obtain ⟨b, h6, h7⟩ := hr.prom j x hj _ h5
        obtain ⟨c, y, h8, h9, h10⟩ := o1_priv_ld h4
        cases h10
        obtain ⟨c', t', h11, h12, h13⟩ := hr.priv j b h6
        rw [h8] at h11; cases h11
        have hc : w.cell? ⟨b, 0, none⟩ = some v := by simp [World.cell?, h12, h9]
        have hh : (asAddr (a.tmps.getD x undef)).run P w = .ok ⟨b, 0, none⟩ w := by rw [h7]; rfl
        simp only [List.mapM_cons, hf2, Sem.run_bind, hh, Sem.run_pure, Result.andThen_ok, load_one ha hc, ih l vs' hl hvs]
      · cases h1
        rename_i i n l hi ha hsz hl
        simp only [evVals] at h2
        split at h2 <;> cases h2
        rename_i v vs' hv hvs
        obtain ⟨j, rfl, hj⟩ := idxOf_spec m 0 _ _ hi
        obtain ⟨u, h3, h4⟩ := ev_o1 hv
        simp only [ev, Option.map_eq_some_iff, Nat.zero_add] at h3
        obtain ⟨v', h5, rfl⟩ := h3
        obtain ⟨b, h6, h7⟩ := hr.prom j x hj _ h5
        obtain ⟨c, h8, h9, h10⟩ := o1_priv_ldn h4
        cases h10
        obtain ⟨c', t', h11, h12, h13⟩ := hr.priv j b h6
        rw [h8] at h11; cases h11
        have hc := load_many (P := P) (w := w) ha hsz (run_row (P := P) h12 0 n h9)
        have hh : (asAddr (a.tmps.getD x undef)).run P w = .ok ⟨b, 0, none⟩ w := by rw [h7]; rfl
        simp only [List.mapM_cons, hf2, Sem.run_bind, hh, Sem.run_pure, Result.andThen_ok, hc, ih l vs' hl hvs]
      · cases h1
theorem fun_sound {f : FuncId} {fn : Func} {c : Code} (hf : P.funcs[f]? = some fn) (hname : (fn.name == "runtime.NumGoroutine") = false) (hb : fn.body = some c) {m : Lmap} {F : SFun} (hc : Sound P N Γ m fn.ntmps F.body c)
    (hres : resEx P m fn.results.toList = some F.res) (hnv : F.nv = m.length) (hm0 : ∀ i, i < F.np → m[i]? = some (i, false)) (hnp : F.np ≤ fn.ntmps) (hle : F.np ≤ F.nv) {args : List Value} {h : Heap} {K : Value → Heap → Prop} (hK : SF N Γ F args h K) :
    FC P f args h K := by
  obtain ⟨hlen, hK⟩ := hK
  refine .inl ⟨⟨fn, hf, hname, by rw [hb]; rfl⟩, fun w hs => ?_⟩
  refine calls_of_wp hf hb ?_
  have hrel : Rel m fn.ntmps h w (fun _ => none) (env0 F.nv args) h { tmps := args.toArray ++ Array.replicate (fn.ntmps - args.toArray.size) undef, defers := [] } w := by
    refine ⟨?_, ?_, ?_, (by intro i b hb; cases hb), (by intro i b hb; cases hb), (by intro i j b hb; cases hb), WStep.refl hs, ?_, rfl⟩
    · simp [env0, hlen]; omega
    · intro i slot hm v hv
      by_cases hi : i < args.length
      · have := hm0 i (by omega)
        rw [this] at hm; cases hm
        simp only [Env.get, env0, List.getElem?_append_left (show i < (args.map some).length by simpa using hi), List.getElem?_map] at hv
        have hg : args[i]? = some v := by
          cases hh : args[i]? with
          | none => rw [hh] at hv; simp at hv
          | some x => rw [hh] at hv; simp at hv; rw [hv]
        rw [Array.getD_eq_getD_getElem?, Array.getElem?_append_left (by simpa using hi)]
        simp [hg]
      · simp only [Env.get, env0, List.getElem?_append_right (show (args.map some).length ≤ i by simpa using hi), List.getElem?_replicate] at hv
        split at hv <;> simp at hv
    · intro i slot hm v hv
      by_cases hi : i < args.length
      · have := hm0 i (by omega)
        rw [this] at hm; cases hm
      · simp only [Env.get, env0, List.getElem?_append_right (show (args.map some).length ≤ i by simpa using hi), List.getElem?_replicate] at hv
        split at hv <;> simp at hv
    · simp; omega
  refine hc h w _ _ _ _ _ _ _ hK hrel ?_
  intro e pb env h' a w' hq hr
  have fin : (∃ vs, evVals N env h' F.res = some vs ∧ K (tup vs) h') → ∃ v, (results fn a.tmps).run P w' = .ok v w' ∧ ∃ v_1 h', Ending.returned v = .returned v_1 ∧ K v_1 h' ∧ WStep h h' w w' := by
    rintro ⟨vs, h1, h2⟩
    refine ⟨tup vs, ?_, tup vs, h', rfl, h2, hr.step⟩
    unfold results
    rw [Array.mapM_eq_mapM_toList]
    simp only [Sem.run_bind, Sem.run_map]
    rw [res_sound (N := N) (P := P) hr (fun _ => rfl) (fun _ _ => rfl) fn.results.toList F.res vs hres h1]
    simp only [Result.andThen_ok, Sem.run_pure]
    match vs with
    | [] => rfl
    | [v] => rfl
    | v :: u :: r => simp [tup]
  cases e with
  | normal => exact ⟨hr.df, fin hq⟩
  | exit id => exact hq.elim
  | ret => exact ⟨hr.df, fin hq⟩
end Go.Cw
namespace Go.Cw
open Go
variable {P : Program} {w : World} {h : Heap} {env : Env} {N : Num} {tk fk : Nat → Option Nat} {pb : Nat → Option Nat} {Γ : Ctx}
def wrOf (ops : Array Oper) (t : Nat) : Option Nat := (List.range ops.size).find? fun j => (ops.getD j default).dst == some t
def tv (ops : Array Oper) (val : Nat → Value) (S : Nat → Bool) (a0 : Nat → Value) (t : Nat) : Value :=
  match wrOf ops t with
  | some i => if S i then val i else a0 t
  | none => a0 t
def inL (l : List Nat) (i : Nat) : Bool := l.contains i
def Fact (P : Program) (tk : Nat → Option Nat) (ops : Array Oper) (nt : Nat) (a0 : Nat → Value) (o : Oper) (val : Nat → Value) (pre : List Nat) (v : Value) (C : World → Prop) : Prop :=
  ∀ (a : Act) (w : World), a.tmps.size = nt → (∀ t ∈ o.looksAt ops, a.tmps.getD t undef = tv ops val (inL pre) a0 t) → (heapyOp P tk o.op = true → C w) →
    (Region.wanted o (yielded ops a.tmps) = true ∧ (execOp a.eval o).run P w = .ok (.value v) w) ∨ (Region.wanted o (yielded ops a.tmps) = false ∧ v = undef)
theorem urel_inj {u : UV} {x y : Value} (hx : urel pb u x) (hy : urel pb u y) : x = y := by
  cases u with
  | v z => rw [urel_v] at hx hy; rw [hx, hy]
  | p i off =>
    obtain ⟨b, h1, h2⟩ := hx
    obtain ⟨b', h3, h4⟩ := hy
    rw [h1] at h3; cases h3
    rw [h2, h4]
theorem eval_agree {ops : Array Oper} {o : Oper} {a a' : Act} (hs : ∀ t ∈ o.looksAt ops, a.tmps.getD t undef = a'.tmps.getD t undef) : ∀ x ∈ o.op.operands, a.eval x = a'.eval x := by
  intro x hx
  cases x with
  | tmp t => exact hs t (by simp only [Oper.looksAt, List.mem_append, List.mem_filterMap]; exact .inl ⟨.tmp t, by simpa using hx, rfl⟩)
  | _ => rfl
theorem wanted_agree {ops : Array Oper} {o : Oper} {a a' : Act} (hn : a.tmps.size = a'.tmps.size) (hs : ∀ t ∈ o.looksAt ops, a.tmps.getD t undef = a'.tmps.getD t undef) :
    Region.wanted o (yielded ops a.tmps) = Region.wanted o (yielded ops a'.tmps) := by
  unfold Region.wanted
  split
  · rfl
  · rename_i g w hg
    have : yielded ops a.tmps g = yielded ops a'.tmps g := by
      unfold yielded
      cases hd : (ops[g]?).bind (·.dst) with
      | none => rfl
      | some d =>
        have h1 := hs d (by simp only [Oper.looksAt, hg, hd, List.mem_append]; exact .inr (by simp))
        have h2 : a.tmps[d]? = a'.tmps[d]? := by
          by_cases hlt : d < a.tmps.size
          · have hlt' : d < a'.tmps.size := hn ▸ hlt
            simp only [Array.getD, hlt, hlt', dite_true] at h1
            rw [Array.getElem?_eq_getElem hlt, Array.getElem?_eq_getElem hlt']
            exact congrArg some h1
          · rw [Array.getElem?_eq_none (Nat.le_of_not_lt hlt), Array.getElem?_eq_none (by rw [← hn]; exact Nat.le_of_not_lt hlt)]
        simp [h2]
    rw [this]
theorem mkOp_select {s : Sg} {path : Pth} {op : Op} {r : Ex × List (Nat × Pth)} (hm : mkOp P tk fk s path op = some r) : ∀ cs b, op ≠ .select cs b := by
  intro cs b e
  subst e
  simp [mkOp, mk, res1, res2] at hm
def dstOk (ops : Array Oper) : Bool := (List.range ops.size).all fun j =>
  match (ops.getD j default).dst with
  | some d => wrOf ops d == some j
  | none => true
theorem dstOk_spec {ops : Array Oper} (hd : dstOk ops = true) {j d : Nat} {o : Oper} (ho : ops[j]? = some o) (hod : o.dst = some d) : wrOf ops d = some j := by
  have hlt := (Array.getElem?_eq_some_iff.1 ho).1
  have := List.all_eq_true.1 hd j (by simpa using hlt)
  have hg : ops.getD j default = o := by rw [Array.getD_eq_getD_getElem?, ho]; rfl
  rw [hg, hod] at this
  simpa using this
theorem tv_put {ops : Array Oper} {val : Nat → Value} {pre : List Nat} {a0 : Nat → Value} {j d : Nat} {y : Value} (hw : wrOf ops d = some j) (hnj : j ∉ pre) {t : Nat} :
    tv ops (fun i => if i = j then y else val i) (inL (pre ++ [j])) a0 t = if t = d then y else tv ops val (inL pre) a0 t := by
  by_cases e : t = d
  · subst e
    simp [tv, hw, inL]
  · simp only [e, if_false]
    unfold tv
    cases hwt : wrOf ops t with
    | none => rfl
    | some i =>
      simp only
      have hne : i ≠ j := by
        intro e'; subst e'
        have h1 : (ops.getD i default).dst == some t := by have := List.find?_some hwt; simpa using this
        have h2 : (ops.getD i default).dst == some d := by have := List.find?_some hw; simpa using this
        have h1' : (ops.getD i default).dst = some t := by simpa using h1
        have h2' : (ops.getD i default).dst = some d := by simpa using h2
        rw [h1'] at h2'; cases h2'; exact e rfl
      simp [inL, hne]
theorem tv_congr {ops : Array Oper} {val val' : Nat → Value} {pre : List Nat} {a0 : Nat → Value} (hv : ∀ i ∈ pre, val' i = val i) (t : Nat) : tv ops val' (inL pre) a0 t = tv ops val (inL pre) a0 t := by
  unfold tv
  cases wrOf ops t with
  | none => rfl
  | some i =>
    simp only
    by_cases hi : i ∈ pre
    · simp [inL, hi, hv i hi]
    · simp [inL, hi]
theorem Fact.congr {ops : Array Oper} {nt : Nat} {a0 : Nat → Value} {o : Oper} {val val' : Nat → Value} {pre : List Nat} {v : Value} {C : World → Prop} (hf : Fact P tk ops nt a0 o val pre v C) (hv : ∀ i ∈ pre, val' i = val i) :
    Fact P tk ops nt a0 o val' pre v C := by
  intro a w hn ht hc
  exact hf a w hn (fun t htt => by rw [ht t htt, tv_congr hv]) hc
theorem cells_hmono {x h : Heap} (hl : Heap.le x h) {b : Nat} {c : Array Value} (hc : x.cells b = some c) : h.cells b = some c := by
  unfold Heap.cells at hc ⊢
  split at hc
  · rename_i c' t fz hb; rw [hl b _ hb]; exact hc
  · cases hc
theorem cell_hmono {x h : Heap} (hl : Heap.le x h) {a : Addr} {v : Value} (hc : x.cell a = some v) : h.cell a = some v := by
  unfold Heap.cell at hc ⊢
  split
  · rename_i hs; rw [if_pos hs] at hc; exact hc
  · rename_i hs; rw [if_neg hs] at hc
    obtain ⟨c, h1, h2⟩ := Option.bind_eq_some_iff.1 hc
    rw [cells_hmono hl h1]; exact h2
theorem row_hmono {x h : Heap} (hl : Heap.le x h) {a : Addr} {n : Nat} {r : Array Value} (hc : x.row a n = some r) : h.row a n = some r := by
  unfold Heap.row at hc ⊢
  split
  · rename_i hs; rw [if_pos hs] at hc; exact hc
  · rename_i hs
    rw [if_neg hs] at hc
    split
    · rename_i h2; rw [if_pos h2] at hc; exact hc
    · rename_i h2; rw [if_neg h2] at hc
      obtain ⟨c, h1, h3⟩ := Option.bind_eq_some_iff.1 hc
      rw [cells_hmono hl h1]; exact h3
theorem entries_hmono {x h : Heap} (hl : Heap.le x h) {v : Value} {es : List MapEntry} (hc : entriesOf x v = some es) : entriesOf h v = some es := by
  unfold entriesOf at hc ⊢
  split
  · exact hc
  · simp only at hc
    split at hc
    · rename_i e1; rw [hl _ _ e1]; exact hc
    · cases hc
  · rename_i h1 h2
    split at hc
    · exact absurd rfl h1
    · rename_i r; exact absurd rfl (h2 r)
    · cases hc
theorem o1V_hmono {x h : Heap} (hl : Heap.le x h) {o : O1} {u r : UV} (hr : o1V N env x o u = some r) : o1V N env h o u = some r := by
  cases u with
  | p i off => simpa only [o1V] using hr
  | v y =>
    unfold o1V at hr ⊢
    simp only at hr ⊢
    split at hr <;> first | exact hr | skip
    all_goals first
      | (obtain ⟨c, h1, h2⟩ := Option.map_eq_some_iff.1 hr; simp only [entries_hmono hl h1, cell_hmono hl h1, row_hmono hl h1, Option.map_some, h2]; done)
      | (obtain ⟨c, h1, h2⟩ := Option.map_eq_some_iff.1 hr; rw [entries_hmono hl h1]; simp [h2]; done)
      | (obtain ⟨c, h1, h2⟩ := Option.map_eq_some_iff.1 hr; rw [cell_hmono hl h1]; simp [h2]; done)
      | (obtain ⟨c, h1, h2⟩ := Option.map_eq_some_iff.1 hr; rw [row_hmono hl h1]; simp [h2]; done)
      | (obtain ⟨c, h1, h2⟩ := Option.bind_eq_some_iff.1 hr; rw [row_hmono hl h1]; exact h2)
theorem o2V_hmono {x h : Heap} (hl : Heap.le x h) {o : O2} {a b r : UV} (hr : o2V x o a b = some r) : o2V h o a b = some r := by
  cases a with
  | p i off =>
    cases b with
    | p j off' => simp [o2V] at hr
    | v z => cases z <;> first | (simp only [o2V] at hr ⊢; exact hr) | (simp [o2V] at hr; done)
  | v y =>
    cases b with
    | p i off => simp [o2V] at hr
    | v z =>
      unfold o2V at hr ⊢
      simp only at hr ⊢
      split at hr <;> first | exact hr | skip
      all_goals (obtain ⟨c, h1, h2⟩ := Option.bind_eq_some_iff.1 hr; rw [entries_hmono hl h1]; exact h2)
theorem ev_hmono {x h : Heap} (hl : Heap.le x h) : ∀ (e : Ex) {u : UV}, ev N env x e = some u → ev N env h e = some u := by
  intro e
  induction e with
  | var i => intro u hu; exact hu
  | pad i => intro u hu; exact hu
  | cnt i => intro u hu; exact hu
  | con y => intro u hu; exact hu
  | mkf f => intro u hu; exact hu
  | o1 o a ih =>
    intro u hu; simp only [ev, Option.bind_eq_some_iff] at hu ⊢
    obtain ⟨v, h1, h2⟩ := hu; exact ⟨v, ih h1, o1V_hmono hl h2⟩
  | o2 o a b iha ihb =>
    intro u hu; simp only [ev, Option.bind_eq_some_iff] at hu ⊢
    obtain ⟨v, h1, w, h2, h3⟩ := hu; exact ⟨v, iha h1, w, ihb h2, o2V_hmono hl h3⟩
  | o3 o a b c iha ihb ihc =>
    intro u hu; simp only [ev, Option.bind_eq_some_iff] at hu ⊢
    obtain ⟨v, h1, w, h2, z, h3, h4⟩ := hu; exact ⟨v, iha h1, w, ihb h2, z, ihc h3, h4⟩
  | pick c a b ihc iha ihb =>
    intro u hu; simp only [ev] at hu ⊢
    split at hu
    · rename_i hc; rw [ihc hc]; exact iha hu
    · rename_i hc; rw [ihc hc]; exact ihb hu
    · cases hu
  | upd base i n a v ihb iha ihv =>
    intro u hu; simp only [ev] at hu ⊢
    split at hu
    · rename_i h1 h2 h3; rw [ihb h1, iha h2, ihv h3]; exact hu
    · cases hu
theorem evP_hmono {x h : Heap} (hl : Heap.le x h) {g : Nat → Option Ex} : ∀ (p : Pth) {b : Bool}, evP N env x g p = some b → evP N env h g p = some b := by
  intro p
  induction p with
  | nil => intro b hb; exact hb
  | cons y r ih =>
    obtain ⟨k, w⟩ := y
    intro b hb
    simp only [evP] at hb ⊢
    cases hg : g k with
    | none => rw [hg] at hb; simp at hb
    | some e =>
      rw [hg] at hb
      simp only [Option.bind_some] at hb ⊢
      cases hv : ev N env x e with
      | none => rw [hv] at hb; simp at hb
      | some u =>
        rw [hv] at hb
        rw [ev_hmono hl e hv]
        cases u with
        | p i off => exact hb
        | v z =>
          cases z <;> first | exact hb | skip
          simp only at hb ⊢
          split
          · rename_i hw; rw [if_pos hw] at hb; exact ih hb
          · rename_i hw; rw [if_neg hw] at hb; exact hb
theorem SInv.hanti {x : Heap} (hl : Heap.le x h) {g : Nat → Option Ex} {s : Sg} {a : Act} (hi : SInv N env h g pb s a) : SInv N env x g pb s a := by
  intro t en he
  obtain ⟨h1, h2, h3⟩ := hi t en he
  exact ⟨h1, fun hp u hu => h2 (evP_hmono hl _ hp) u (ev_hmono hl _ hu), fun hp => h3 (evP_hmono hl _ hp)⟩
theorem pureL_facts (htk : ∀ t k, tk t = some k → N.tid k = t) (hfk : ∀ f k, fk f = some k → N.fid k = f) {g : Nat → Option Ex} {ops : Array Oper} {nt : Nat} {a0 : Nat → Value} (hdst : dstOk ops = true)
    (hs : h.sub w) (hpr : Priv pb env h w) : ∀ (L : List Nat) (s s' : Sg) (rs : List Rec) (a : Act) (val : Nat → Value) (pre : List Nat), pureL P tk fk ops nt L s = some (rs, s') → SInv N env h g pb s a → a.tmps.size = nt →
      (∀ r ∈ rs, g r.idx = some r.ex) → (∀ r ∈ rs, evP N env h g r.path ≠ none ∧ (evP N env h g r.path = some true → r.move = true ∨ ∃ u, ev N env h r.ex = some u)) →
      (∀ t, a.tmps.getD t undef = tv ops val (inL pre) a0 t) → (pre ++ L).Nodup →
      ∃ (val' : Nat → Value) (a' : Act), (∀ i, i ∉ L → val' i = val i) ∧ SInv N env h g pb s' a' ∧ a'.tmps.size = nt ∧ a'.defers = a.defers ∧ (∀ t, a'.tmps.getD t undef = tv ops val' (inL (pre ++ L)) a0 t) ∧
        ∀ L1 j L2, L = L1 ++ j :: L2 → ∃ o r, ops[j]? = some o ∧ r ∈ rs ∧ r.idx = j ∧ Fact P tk ops nt a0 o val' (pre ++ L1) (val' j) (fun w => h.sub w ∧ Priv pb env h w) ∧
          ∀ x, Heap.le x h → (evP N env x g r.path ≠ none ∧ (evP N env x g r.path = some true → r.move = true ∨ ∃ u, ev N env x r.ex = some u)) → Fact P tk ops nt a0 o val' (pre ++ L1) (val' j) (fun w => x.sub w ∧ Priv pb env x w) := by
  intro L
  induction L with
  | nil =>
    intro s s' rs a val pre hp hi hn _ _ ht _
    simp only [pureL] at hp; cases hp
    exact ⟨val, a, fun _ _ => rfl, hi, hn, rfl, by simpa using ht, fun L1 j L2 e => by simp at e⟩
  | cons j L ih =>
    intro s s' rs a val pre hp hi hn hg hc ht hnd
    simp only [pureL] at hp
    split at hp <;> try (cases hp; done)
    rename_i o ho
    split at hp <;> try (cases hp; done)
    rename_i d path hd hpath
    split at hp <;> try (cases hp; done)
    rename_i e us hm
    split at hp <;> try (cases hp; done)
    rename_i hdn
    split at hp <;> cases hp
    rename_i rs' hp
    have hrec := hc _ (List.mem_cons_self ..)
    have hgj : g j = some e := hg _ (List.mem_cons_self ..)
    simp only at hrec
    have hd' : d < a.tmps.size := by rw [hn]; exact hdn
    have hwr := dstOk_spec hdst ho hd
    have hnj : j ∉ pre := by
      intro hj
      have := List.nodup_append.1 hnd
      exact this.2.2 j hj j (by simp) rfl
    have hnjL : j ∉ L := by
      have := (List.nodup_append.1 hnd).2.1
      exact (List.nodup_cons.1 this).1
    have key : ∃ y, (evP N env h g path = some true → ∀ u, ev N env h e = some u → urel pb u y) ∧ (evP N env h g path = some false → y = undef) ∧
        Fact P tk ops nt a0 o val pre y (fun w => h.sub w ∧ Priv pb env h w) ∧
        ∀ x, Heap.le x h → (evP N env x g path ≠ none ∧ (evP N env x g path = some true → isMove o.op = true ∨ ∃ u, ev N env x e = some u)) → Fact P tk ops nt a0 o val pre y (fun w => x.sub w ∧ Priv pb env x w) := by
      have movef : ∀ y, (evP N env h g path = some true) → isMove o.op = true → (execOp a.eval o).run P w = .ok (.value y) w → ∀ C, Fact P tk ops nt a0 o val pre y C := by
        intro y hev hmv hrun C a' w' hn' ht' _
        have hwant := wanted_true hi hpath hev
        obtain ⟨x, hx⟩ : ∃ x, o.op = .move x ∨ o.op = .assign x := by
          cases ho' : o.op <;> rw [ho'] at hmv <;> simp [isMove] at hmv
          · exact ⟨_, .inl rfl⟩
          · exact ⟨_, .inr rfl⟩
        have hmem : x ∈ o.op.operands := by rcases hx with hx | hx <;> rw [hx] <;> simp [Op.operands]
        have hag : ∀ t ∈ o.looksAt ops, a'.tmps.getD t undef = a.tmps.getD t undef := fun t htt => by rw [ht' t htt, ht t]
        have hy : y = a.eval x := by
          have h1 : (execOp a.eval o).run P w = .ok (.value (a.eval x)) w := by rcases hx with hx | hx <;> rw [execOp_of hx] <;> rfl
          rw [h1] at hrun; cases hrun; rfl
        refine .inl ⟨by rw [wanted_agree (hn'.trans hn.symm) hag]; exact hwant, ?_⟩
        rw [hy, ← eval_agree hag x hmem]
        rcases hx with hx | hx <;> rw [execOp_of hx] <;> rfl
      cases hev : evP N env h g path with
      | none => exact absurd hev hrec.1
      | some b =>
        cases b with
        | true =>
          have hwant := wanted_true hi hpath hev
          cases hu : ev N env h e with
          | none =>
            rcases hrec.2 hev with hmv | ⟨u, hu'⟩
            · obtain ⟨x, hx⟩ : ∃ x, o.op = .move x ∨ o.op = .assign x := by
                cases ho' : o.op <;> rw [ho'] at hmv <;> simp [isMove] at hmv
                · exact ⟨_, .inl rfl⟩
                · exact ⟨_, .inr rfl⟩
              have hmem : x ∈ o.op.operands := by rcases hx with hx | hx <;> rw [hx] <;> simp [Op.operands]
              have hrun0 : (execOp a.eval o).run P w = .ok (.value (a.eval x)) w := by rcases hx with hx | hx <;> rw [execOp_of hx] <;> rfl
              refine ⟨a.eval x, (fun _ u hu' => by cases hu'), (fun h => by cases h), ?_, fun _ _ _ => movef _ hev hmv hrun0 _⟩
              intro a' w' hn' ht' _
              have hag : ∀ t ∈ o.looksAt ops, a'.tmps.getD t undef = a.tmps.getD t undef := fun t htt => by rw [ht' t htt, ht t]
              refine .inl ⟨by rw [wanted_agree (hn'.trans hn.symm) hag]; exact hwant, ?_⟩
              rw [← eval_agree hag x hmem]
              rcases hx with hx | hx <;> rw [execOp_of hx] <;> rfl
            · rw [hu] at hu'; cases hu'
          | some u =>
            obtain ⟨⟨y, hrun, hy⟩, _⟩ := mkOp_sound htk hfk hi hev hm hu (fun _ => hs) (fun _ => hpr)
            refine ⟨y, (fun _ u' hu' => by cases hu'; exact hy), (fun h => by cases h), ?_, ?_⟩
            rotate_left
            · intro x hx ⟨c1, c2⟩
              have hevx : evP N env x g path = some true := by
                cases hb : evP N env x g path with
                | none => exact absurd hb c1
                | some b => rw [evP_hmono hx _ hb] at hev; cases hev; rfl
              rcases c2 hevx with hmv | ⟨ux, hux⟩
              · exact movef y hev hmv hrun _
              · have e1 : ux = u := by have := ev_hmono hx e hux; rw [hu] at this; cases this; rfl
                subst e1
                intro a' w' hn' ht' hc'
                have hag : ∀ t ∈ o.looksAt ops, a'.tmps.getD t undef = a.tmps.getD t undef := fun t htt => by rw [ht' t htt, ht t]
                refine .inl ⟨by rw [wanted_agree (hn'.trans hn.symm) hag]; exact hwant, ?_⟩
                obtain ⟨⟨y', hrun', hy'⟩, _⟩ := mkOp_sound (w := w') htk hfk (SInv.hanti hx hi) hevx hm hux (fun hh => (hc' hh).1) (fun hh => (hc' hh).2)
                rw [execOp_congr o (mkOp_select hm) (eval_agree hag), hrun', urel_inj hy' hy]
            intro a' w' hn' ht' hc'
            have hag : ∀ t ∈ o.looksAt ops, a'.tmps.getD t undef = a.tmps.getD t undef := fun t htt => by rw [ht' t htt, ht t]
            refine .inl ⟨by rw [wanted_agree (hn'.trans hn.symm) hag]; exact hwant, ?_⟩
            obtain ⟨⟨y', hrun', hy'⟩, _⟩ := mkOp_sound (w := w') htk hfk hi hev hm hu (fun hh => (hc' hh).1) (fun hh => (hc' hh).2)
            rw [execOp_congr o (mkOp_select hm) (eval_agree hag), hrun', urel_inj hy' hy]
        | false =>
          have hwant := wanted_false hi hpath hev
          have hff : ∀ C, Fact P tk ops nt a0 o val pre undef C := by
            intro C a' w' hn' ht' _
            have hag : ∀ t ∈ o.looksAt ops, a'.tmps.getD t undef = a.tmps.getD t undef := fun t htt => by rw [ht' t htt, ht t]
            exact .inr ⟨by rw [wanted_agree (hn'.trans hn.symm) hag]; exact hwant, rfl⟩
          exact ⟨undef, (fun h => by cases h), (fun _ => rfl), hff _, fun _ _ _ => hff _⟩
    obtain ⟨y, hy1, hy2, hfact, hfactx⟩ := key
    have hsi := hi.put (en := ⟨j, path, e⟩) (v := y) hd' hgj hy1 hy2
    obtain ⟨val', a', h1, h2, h3, h4, h5, h6⟩ := ih _ _ _ (a.put (some d) y) (fun i => if i = j then y else val i) (pre ++ [j]) hp hsi (by simp [Act.put, hn])
      (fun r hr => hg r (List.mem_cons_of_mem _ hr)) (fun r hr => hc r (List.mem_cons_of_mem _ hr)) (fun t => by
        rw [tv_put hwr hnj]
        by_cases e' : t = d
        · subst e'; rw [if_pos rfl]; exact getD_put_same hd'
        · rw [if_neg e', getD_put_other (Ne.symm e'), ht t]) (by simpa using hnd)
    have hvj : val' j = y := by rw [h1 j hnjL]; simp
    have hvpre : ∀ i ∈ pre, val' i = val i := by
      intro i hi'
      have hne : i ≠ j := fun e' => hnj (e' ▸ hi')
      have hniL : i ∉ L := fun hiL => (List.nodup_append.1 hnd).2.2 i hi' i (by simp [hiL]) rfl
      rw [h1 i hniL]; simp [hne]
    refine ⟨val', a', ?_, h2, h3, h4, by simpa using h5, ?_⟩
    · intro i hi'
      simp only [List.mem_cons, not_or] at hi'
      rw [h1 i hi'.2]; simp [hi'.1]
    · intro L1 j' L2 hL
      cases L1 with
      | nil =>
        simp at hL
        obtain ⟨rfl, rfl⟩ := hL
        exact ⟨o, _, ho, List.mem_cons_self .., rfl, by rw [hvj]; simpa using hfact.congr hvpre, fun x hx hc => by rw [hvj]; simpa using (hfactx x hx hc).congr hvpre⟩
      | cons x L1 =>
        simp at hL
        obtain ⟨rfl, rfl⟩ := hL
        obtain ⟨o', r', h7, h8, h9, h10, h11⟩ := h6 L1 j' L2 rfl
        exact ⟨o', r', h7, List.mem_cons_of_mem _ h8, h9, by simpa using h10, fun x hx hc => by simpa using h11 x hx hc⟩
end Go.Cw
namespace Go.Cw
open Go
variable {P : Program} {N : Num} {tk fk : Nat → Option Nat} {Γ : Ctx}
abbrev PT := List (List Nat)
def prs (pt : PT) (i : Nat) : List Nat := pt.getD i []
def boundOn (o : Oper) : List Nat := (o.after.toList.filter (Region.binds .any ·)).map (·.on)
def prOk (ops : Array Oper) (pt : PT) : Bool := (List.range ops.size).all fun i => (prs pt i).all fun k => (boundOn (ops.getD i default)).any fun e => e == k || (prs pt e).contains k
def seesOk (ops : Array Oper) (pt : PT) (pre : List Nat) (i : Nat) : Bool :=
  ((ops.getD i default).looksAt ops).all fun t => match wrOf ops t with
    | none => true
    | some j => if pre.contains j then (prs pt i).contains j else j == i || (prs pt j).contains i
def oneOk (ops : Array Oper) (pt : PT) (pre : List Nat) (i : Nat) : Bool :=
  decide (i < ops.size) && !pre.contains i && seesOk ops pt pre i && (boundOn (ops.getD i default)).all pre.contains
def blockOk (ops : Array Oper) (pt : PT) : List Nat → List Nat → Bool
  | _, [] => true
  | pre, i :: L => oneOk ops pt pre i && isPure (ops.getD i default).op && blockOk ops pt (pre ++ [i]) L
def laterOk (ops : Array Oper) (pt : PT) (pre : List Nat) (x : Nat) : Bool := (List.range ops.size).all fun i => pre.contains i || (prs pt i).contains x
def flagOf (P : Program) (tk : Nat → Option Nat) (ops : Array Oper) (pt : PT) (pre : List Nat) (x : Nat) : Bool :=
  pre.any fun i => isPure (ops.getD i default).op && heapyOp P tk (ops.getD i default).op && !(prs pt x).contains i
def dstLt (ops : Array Oper) (nt : Nat) : Bool := (List.range ops.size).all fun j => match (ops.getD j default).dst with | some d => decide (d < nt) | none => true
def lst (listed : Array Bool) (i : Nat) : Bool := listed.getD i true
theorem lst_set (listed : Array Bool) (i j : Nat) : lst (listed.setIfInBounds i true) j = if j = i then true else lst listed j := by
  unfold lst
  by_cases e : j = i
  · subst e
    simp only [if_true, Array.getD_eq_getD_getElem?, Array.getElem?_setIfInBounds_self]
    split <;> rfl
  · simp only [e, if_false]
    exact getD_set_ne true (Ne.symm e)
theorem getD_ops {ops : Array Oper} {j : Nat} {o : Oper} (ho : ops[j]? = some o) : ops.getD j default = o := by rw [Array.getD_eq_getD_getElem?, ho]; rfl
theorem mem_boundOn {o : Oper} {k : Nat} : k ∈ boundOn o ↔ ∃ e ∈ o.after, Region.binds .any e = true ∧ e.on = k := by
  simp [boundOn, and_assoc]
theorem tv_step {ops : Array Oper} (hd : dstOk ops = true) {nt : Nat} (hl : dstLt ops nt = true) {val : Nat → Value} {S S' : Nat → Bool} {a0 : Nat → Value} {j : Nat} {o : Oper} (ho : ops[j]? = some o) (hj : S' j = true)
    (hne : ∀ i, i ≠ j → S' i = S i) {a : Act} (hn : a.tmps.size = nt) (ht : ∀ t, a.tmps.getD t undef = tv ops val S a0 t) (y : Value) :
    ∀ t, (a.put o.dst y).tmps.getD t undef = tv ops (fun i => if i = j then y else val i) S' a0 t := by
  intro t
  have hlt := (Array.getElem?_eq_some_iff.1 ho).1
  have hno : ∀ i, wrOf ops t = some i → (ops.getD i default).dst = some t := by
    intro i hw
    have := List.find?_some hw
    simpa using this
  have key : ∀ i, wrOf ops t = some i → i ≠ j → tv ops (fun i => if i = j then y else val i) S' a0 t = tv ops val S a0 t := by
    intro i hw hij
    simp only [tv, hw, hij, if_false, hne i hij]
  cases hdo : o.dst with
  | none =>
    show a.tmps.getD t undef = _
    rw [ht t]
    cases hw : wrOf ops t with
    | none => simp [tv, hw]
    | some i =>
      refine (key i hw ?_).symm
      rintro rfl
      have := hno i hw
      rw [getD_ops ho, hdo] at this; cases this
  | some d =>
    have hd' : d < a.tmps.size := by
      have := List.all_eq_true.1 hl j (by simpa using hlt)
      rw [getD_ops ho, hdo] at this
      rw [hn]; simpa using this
    have hwd := dstOk_spec hd ho hdo
    by_cases e : t = d
    · subst e
      rw [getD_put_same hd']
      simp [tv, hwd, hj]
    · rw [getD_put_other (Ne.symm e), ht t]
      cases hw : wrOf ops t with
      | none => simp [tv, hw]
      | some i =>
        refine (key i hw ?_).symm
        rintro rfl
        have h1 := hno i hw
        rw [getD_ops ho, hdo] at h1
        cases h1; exact e rfl
def Pend (P : Program) (tk : Nat → Option Nat) (ops : Array Oper) (nt : Nat) (pt : PT) (a0 : Nat → Value) (pre : List Nat) (val : Nat → Value) (pb : Nat → Option Nat) (env : Env) (h : Heap) (ws : List Heap) (Lc : List Nat) (Cv : Nat → Heap → Prop) (i : Nat) : Prop :=
  ∃ (o : Oper) (pre1 pre2 : List Nat), ops[i]? = some o ∧ pre = pre1 ++ i :: pre2 ∧ seesOk ops pt pre1 i = true ∧ isPure o.op = true ∧
    ((∃ (pb1 : Nat → Option Nat) (env1 : Env) (x : Heap), Fact P tk ops nt a0 o val pre1 (val i) (fun w => x.sub w ∧ Priv pb1 env1 x w) ∧ (heapyOp P tk o.op = true → x ∈ ws ∧ pb1 = pb ∧ ∀ k b, pb k = some b → env1.get k = env.get k)) ∨
     (i ∈ Lc ∧ Fact P tk ops nt a0 o val pre1 (val i) (fun w => h.sub w ∧ Priv pb env h w) ∧ ∀ x, Heap.le x h → Cv i x → Fact P tk ops nt a0 o val pre1 (val i) (fun w => x.sub w ∧ Priv pb env x w)))
structure DCore (P : Program) (tk : Nat → Option Nat) (ops : Array Oper) (nt : Nat) (pt : PT) (a0 : Nat → Value) (pre : List Nat) (listed : Array Bool) (a : Act) (w : World) (ah : Act) (val : Nat → Value)
    (pb : Nat → Option Nat) (env : Env) (h : Heap) (ws : List Heap) (Lc : List Nat) (Cv : Nat → Heap → Prop) : Prop where
  len : listed.size = ops.size
  closed : ∀ i, i < ops.size → lst listed i = true → ∀ k ∈ prs pt i, lst listed k = true
  sub : ∀ i, i < ops.size → lst listed i = true → i ∈ pre
  ord : ∀ pre1 i pre2, pre = pre1 ++ i :: pre2 → i < ops.size ∧ ∀ e ∈ boundOn (ops.getD i default), e ∈ pre1
  nd : pre.Nodup
  real : ∀ t, a.tmps.getD t undef = tv ops val (lst listed) a0 t
  ant : a.tmps.size = nt
  adf : a.defers = []
  hyp : ∀ t, ah.tmps.getD t undef = tv ops val (inL pre) a0 t
  hnt : ah.tmps.size = nt
  hdf : ah.defers = []
  hsub : h.sub w
  hpriv : Priv pb env h w
  les : ∀ x ∈ ws, Heap.le x h
  pend : ∀ i ∈ pre, lst listed i = false → Pend P tk ops nt pt a0 pre val pb env h ws Lc Cv i
theorem ready_closed {ops : Array Oper} {pt : PT} (hp : prOk ops pt = true) {listed : Array Bool} (hc : ∀ i, i < ops.size → lst listed i = true → ∀ k ∈ prs pt i, lst listed k = true) {i : Nat}
    (hlen : listed.size = ops.size) (hr : i ∈ Region.ready .any ops listed) : ∀ k ∈ prs pt i, lst listed k = true := by
  intro k hk
  obtain ⟨_, o, ho, hall⟩ := mem_ready.1 hr
  have hlt := (Array.getElem?_eq_some_iff.1 ho).1
  have h1 := List.all_eq_true.1 (List.all_eq_true.1 hp i (by simpa using hlt)) k hk
  rw [getD_ops ho] at h1
  obtain ⟨e, he, h2⟩ := List.any_eq_true.1 h1
  obtain ⟨ed, hed, hb, rfl⟩ := mem_boundOn.1 he
  have h3 := hall ed hed hb
  have h4 : ed.on < listed.size := by
    rcases Nat.lt_or_ge ed.on listed.size with h' | h'
    · exact h'
    · simp [Array.getD_eq_getD_getElem?, Array.getElem?_eq_none h'] at h3
  have h5 : lst listed ed.on = true := by
    unfold lst
    simp only [Array.getD_eq_getD_getElem?, Array.getElem?_eq_getElem h4, Option.getD_some] at h3 ⊢
    exact h3
  simp only [Bool.or_eq_true, beq_iff_eq, List.contains_iff_mem] at h2
  rcases h2 with h2 | h2
  · rw [← h2]; exact h5
  · exact hc _ (hlen ▸ h4) h5 k h2
theorem progress {ops : Array Oper} {listed : Array Bool} (hlen : listed.size = ops.size) (hr : Region.ready .any ops listed = []) : ∀ (n : Nat) (pre : List Nat), pre.length = n →
    (∀ pre1 i pre2, pre = pre1 ++ i :: pre2 → i < ops.size ∧ ∀ e ∈ boundOn (ops.getD i default), e ∈ pre1) → ∀ i ∈ pre, lst listed i = true := by
  intro n
  induction n with
  | zero => intro pre hl _ i hi; cases pre <;> simp at hl; simp at hi
  | succ n ih =>
    intro pre hl ho i hi
    obtain ⟨p, j, rfl⟩ : ∃ p j, pre = p ++ [j] := ⟨pre.dropLast, pre.getLast (by intro e; rw [e] at hl; cases hl), (List.dropLast_concat_getLast _).symm⟩
    have hp := ih p (by simpa using hl) (fun p1 k p2 e => ho p1 k (p2 ++ [j]) (by rw [e]; simp))
    simp only [List.mem_append, List.mem_singleton] at hi
    rcases hi with hi | rfl
    · exact hp i hi
    · obtain ⟨hlt, hb⟩ := ho p i [] rfl
      cases hli : lst listed i with
      | true => rfl
      | false =>
        have : i ∈ Region.ready .any ops listed := by
          refine mem_ready.2 ⟨hli, ops[i], Array.getElem?_eq_getElem hlt, fun e he hbd => ?_⟩
          have h1 : e.on ∈ boundOn (ops.getD i default) := by
            rw [getD_ops (Array.getElem?_eq_getElem hlt)]
            exact mem_boundOn.2 ⟨e, he, hbd, rfl⟩
          have h2 := hb _ h1
          have h3 := hp _ h2
          obtain ⟨q1, q2, hq⟩ := List.append_of_mem h2
          have h4 : e.on < listed.size := by rw [hlen]; exact (ho q1 e.on (q2 ++ [i]) (by rw [hq]; simp)).1
          unfold lst at h3
          simp only [Array.getD_eq_getD_getElem?, Array.getElem?_eq_getElem h4, Option.getD_some] at h3 ⊢
          exact h3
        rw [hr] at this; cases this
end Go.Cw
namespace Go.Cw
open Go
variable {P : Program} {N : Num} {tk fk : Nat → Option Nat} {Γ : Ctx}
theorem oneOk_spec {ops : Array Oper} {pt : PT} {pre : List Nat} {i : Nat} (h : oneOk ops pt pre i = true) :
    i < ops.size ∧ i ∉ pre ∧ seesOk ops pt pre i = true ∧ ∀ e ∈ boundOn (ops.getD i default), e ∈ pre := by
  unfold oneOk at h
  simp only [Bool.and_eq_true, decide_eq_true_eq, Bool.not_eq_true', List.all_eq_true, List.contains_iff_mem] at h
  obtain ⟨⟨⟨h1, h2⟩, h3⟩, h4⟩ := h
  exact ⟨h1, (fun hc => by rw [List.contains_iff_mem.2 hc] at h2; cases h2), h3, h4⟩
theorem blockOk_spec {ops : Array Oper} {pt : PT} : ∀ (L pre : List Nat), blockOk ops pt pre L = true → ∀ L1 j L2, L = L1 ++ j :: L2 → oneOk ops pt (pre ++ L1) j = true ∧ isPure (ops.getD j default).op = true := by
  intro L
  induction L with
  | nil => intro pre _ L1 j L2 e; cases L1 <;> cases e
  | cons i L ih =>
    intro pre h L1 j L2 e
    simp only [blockOk, Bool.and_eq_true] at h
    cases L1 with
    | nil => simp at e; obtain ⟨rfl, rfl⟩ := e; exact ⟨by simpa using h.1.1, h.1.2⟩
    | cons k L1 =>
      simp at e
      obtain ⟨rfl, rfl⟩ := e
      have := ih (pre ++ [i]) h.2 L1 j L2 rfl
      simpa using this
theorem blockOk_nodup {ops : Array Oper} {pt : PT} : ∀ (L pre : List Nat), pre.Nodup → blockOk ops pt pre L = true → (pre ++ L).Nodup := by
  intro L
  induction L with
  | nil => intro pre hp _; simpa using hp
  | cons i L ih =>
    intro pre hp h
    simp only [blockOk, Bool.and_eq_true] at h
    have h1 := (oneOk_spec h.1.1).2.1
    have := ih (pre ++ [i]) (by
      rw [List.nodup_append]
      refine ⟨hp, by simp, ?_⟩
      intro a ha b hb e
      simp only [List.mem_singleton] at hb
      subst hb; subst e; exact h1 ha) h.2
    simpa using this
theorem split_append {α : Type} {pre L p1 p2 : List α} {i : α} (h : pre ++ L = p1 ++ i :: p2) : (∃ q, pre = p1 ++ i :: q ∧ p2 = q ++ L) ∨ (∃ L1 , L = L1 ++ i :: p2 ∧ p1 = pre ++ L1) := by
  rcases List.append_eq_append_iff.1 h with ⟨q, h1, h2⟩ | ⟨q, h1, h2⟩
  · exact .inr ⟨q, h2, h1⟩
  · cases q with
    | nil => simp at h1 h2; exact .inr ⟨[], by simp [h2], by simp [h1]⟩
    | cons x q => simp at h2; obtain ⟨rfl, rfl⟩ := h2; exact .inl ⟨q, h1, rfl⟩
theorem pureL_uniq {L : List Nat} {s s' : Sg} {ops : Array Oper} {nt : Nat} {rs : List Rec} (h : pureL P tk fk ops nt L s = some (rs, s')) (hn : L.Nodup) : ∀ r' ∈ rs, ∀ r ∈ rs, r'.idx = r.idx → r' = r := by
  have hi := pureL_idx _ _ _ _ h
  rw [← hi] at hn
  clear h hi
  induction rs with
  | nil => intro r' h; simp at h
  | cons x rs ih =>
    simp only [List.map_cons, List.nodup_cons] at hn
    intro r' h' r h e
    simp only [List.mem_cons] at h' h
    rcases h' with rfl | h' <;> rcases h with rfl | h
    · rfl
    · exact absurd (List.mem_map.2 ⟨r, h, e.symm⟩) hn.1
    · exact absurd (List.mem_map.2 ⟨r', h', e⟩) hn.1
    · exact ih hn.2 r' h' r h e
theorem DCore.block {ops : Array Oper} {nt : Nat} {pt : PT} {a0 : Nat → Value} {pre : List Nat} {listed : Array Bool} {a : Act} {w : World} {ah : Act} {val : Nat → Value} {pb : Nat → Option Nat} {env : Env} {h : Heap} {ws : List Heap}
    (hc : DCore P tk ops nt pt a0 pre listed a w ah val pb env h ws [] (fun _ _ => False))
    (htk : ∀ t k, tk t = some k → N.tid k = t) (hfk : ∀ f k, fk f = some k → N.fid k = f) (hdst : dstOk ops = true) {L : List Nat} {s s' : Sg} {rs : List Rec} {g : Nat → Option Ex}
    (hb : blockOk ops pt pre L = true) (hp : pureL P tk fk ops nt L s = some (rs, s')) (hi : SInv N env h g pb s ah) (hg : ∀ r ∈ rs, g r.idx = some r.ex)
    (hcov : ∀ r ∈ rs, evP N env h g r.path ≠ none ∧ (evP N env h g r.path = some true → r.move = true ∨ ∃ u, ev N env h r.ex = some u)) :
    ∃ (val' : Nat → Value) (ah' : Act), DCore P tk ops nt pt a0 (pre ++ L) listed a w ah' val' pb env h ws L (fun i x => ∃ r ∈ rs, r.idx = i ∧ evP N env x g r.path ≠ none ∧ (evP N env x g r.path = some true → r.move = true ∨ ∃ u, ev N env x r.ex = some u)) ∧ (∀ i ∈ L, ∃ r ∈ rs, r.idx = i) ∧ SInv N env h g pb s' ah' := by
  have hnd := blockOk_nodup L pre hc.nd hb
  obtain ⟨val', ah', h1, h2, h3, h4, h5, h6⟩ := pureL_facts htk hfk hdst hc.hsub hc.hpriv L s s' rs ah val pre hp hi hc.hnt hg hcov hc.hyp hnd
  have hruniq : ∀ r' ∈ rs, ∀ r ∈ rs, r'.idx = r.idx → r' = r := pureL_uniq hp (List.nodup_append.1 hnd).2.1
  have hsame : ∀ i ∈ pre, val' i = val i := fun i hip => h1 i (fun hiL => (List.nodup_append.1 hnd).2.2 i hip i hiL rfl)
  refine ⟨val', ah', ?_, fun i hi => ?_, h2⟩
  rotate_left
  · obtain ⟨L1, L2, e⟩ := List.append_of_mem hi
    obtain ⟨o, r, _, h8, h9, _⟩ := h6 L1 i L2 e
    exact ⟨r, h8, h9⟩
  refine ⟨hc.len, hc.closed, fun i hl hi => List.mem_append_left _ (hc.sub i hl hi), ?_, hnd, ?_, hc.ant, hc.adf, h5, h3, h4.trans hc.hdf, hc.hsub, hc.hpriv, hc.les, ?_⟩
  · intro p1 i p2 e
    rcases split_append e with ⟨q, e1, e2⟩ | ⟨L1, e1, e2⟩
    · exact hc.ord p1 i q e1
    · have := oneOk_spec (blockOk_spec L pre hb L1 i p2 e1).1
      rw [e2]; exact ⟨this.1, this.2.2.2⟩
  · intro t
    rw [hc.real t]
    unfold tv
    cases hw : wrOf ops t with
    | none => rfl
    | some i =>
      simp only
      cases hl : lst listed i with
      | false => simp
      | true =>
        have hlt : i < ops.size := by
          have := List.mem_of_find?_eq_some hw; simpa using this
        rw [hsame i (hc.sub i hlt hl)]
  · intro i hip hl
    rw [List.mem_append] at hip
    rcases hip with hip | hip
    · obtain ⟨o, p1, p2, h7, h8, h9, h10, h11⟩ := hc.pend i hip hl
      refine ⟨o, p1, p2 ++ L, h7, by rw [h8]; simp, h9, h10, ?_⟩
      rw [hsame i hip]
      rcases h11 with ⟨pb1, env1, x, h11, h12⟩ | ⟨_, h11⟩
      · exact .inl ⟨pb1, env1, x, h11.congr fun k hk => hsame k (by rw [h8]; exact List.mem_append_left _ hk), h12⟩
      · rename_i hn; simp at hn
    · obtain ⟨L1, L2, e⟩ := List.append_of_mem hip
      obtain ⟨o, r, h7, hr1, hr2, h8, hx8⟩ := h6 L1 i L2 e
      have h9 := blockOk_spec L pre hb L1 i L2 e
      refine ⟨o, pre ++ L1, L2, h7, by rw [e]; simp, (oneOk_spec h9.1).2.2.1, by rw [← getD_ops h7]; exact h9.2, .inr ⟨hip, h8, ?_⟩⟩
      rintro x hx ⟨r', hr', hri, c1, c2⟩
      have : r' = r := hruniq r' hr' r hr1 (hri.trans hr2.symm)
      subst this
      exact hx8 x hx ⟨c1, c2⟩
theorem DCore.sees {ops : Array Oper} {nt : Nat} {pt : PT} {a0 : Nat → Value} {pre : List Nat} {listed : Array Bool} {a : Act} {w : World} {ah : Act} {val : Nat → Value} {pb : Nat → Option Nat} {env : Env} {h : Heap} {ws : List Heap} {Lc : List Nat} {Cv : Nat → Heap → Prop}
    (hc : DCore P tk ops nt pt a0 pre listed a w ah val pb env h ws Lc Cv) (hp : prOk ops pt = true) {i : Nat} (hr : i ∈ Region.ready .any ops listed) {o : Oper} (ho : ops[i]? = some o) {p : List Nat} (hs : seesOk ops pt p i = true) :
    ∀ t ∈ o.looksAt ops, a.tmps.getD t undef = tv ops val (inL p) a0 t := by
  intro t ht
  have h1 := List.all_eq_true.1 hs t (by rw [getD_ops ho]; exact ht)
  rw [hc.real t]
  unfold tv
  cases hw : wrOf ops t with
  | none => rfl
  | some j =>
    rw [hw] at h1
    simp only at h1 ⊢
    have hlj : j < ops.size := by have := List.mem_of_find?_eq_some hw; simpa using this
    have hli := (mem_ready.1 hr).1
    by_cases hj : p.contains j = true
    · rw [if_pos hj] at h1
      have := ready_closed hp hc.closed hc.len hr j (by simpa using h1)
      simp [inL, this, List.contains_iff_mem.1 hj]
    · rw [if_neg hj] at h1
      have hnj : j ∉ p := fun h => hj (List.contains_iff_mem.2 h)
      have : lst listed j = false := by
        cases hl : lst listed j with
        | false => rfl
        | true =>
          simp only [Bool.or_eq_true, beq_iff_eq, List.contains_iff_mem] at h1
          rcases h1 with h1 | h1
          · subst h1; unfold lst at hl; rw [hli] at hl; cases hl
          · have := hc.closed j hlj hl i h1
            unfold lst at this; rw [hli] at this; cases this
      simp [inL, this, hnj]
theorem DCore.pure {ops : Array Oper} {nt : Nat} {pt : PT} {a0 : Nat → Value} {pre : List Nat} {listed : Array Bool} {a : Act} {w : World} {ah : Act} {val : Nat → Value} {pb : Nat → Option Nat} {env : Env} {h : Heap} {ws : List Heap} {Lc : List Nat} {Cv : Nat → Heap → Prop}
    (hc : DCore P tk ops nt pt a0 pre listed a w ah val pb env h ws Lc Cv) (hp : prOk ops pt = true) (hdst : dstOk ops = true) (hlt : dstLt ops nt = true) {i : Nat} (hr : i ∈ Region.ready .any ops listed) (hi : i ∈ pre)
    {Q : Exit → Act → World → Prop} {K : Act → World → Prop} (hK : ∀ a', DCore P tk ops nt pt a0 pre (listed.setIfInBounds i true) a' w ah val pb env h ws Lc Cv → K a' w) : wpOp P ops Q i K a w := by
  have hli : lst listed i = false := (mem_ready.1 hr).1
  obtain ⟨o, p1, p2, h7, h8, h9, h10, h11⟩ := hc.pend i hi hli
  have hs := hc.sees hp hr h7 h9
  have hsz := (Array.getElem?_eq_some_iff.1 h7).1
  have hdone : DCore P tk ops nt pt a0 pre (listed.setIfInBounds i true) (a.put o.dst (val i)) w ah val pb env h ws Lc Cv := by
    refine ⟨by simpa using hc.len, ?_, ?_, hc.ord, hc.nd, ?_, ?_, ?_, hc.hyp, hc.hnt, hc.hdf, hc.hsub, hc.hpriv, hc.les, ?_⟩
    · intro j hj hl k hk
      rw [lst_set] at hl ⊢
      by_cases e : j = i
      · subst e
        rw [ready_closed hp hc.closed hc.len hr k hk]; simp
      · rw [if_neg e] at hl
        rw [hc.closed j hj hl k hk]; simp
    · intro j hj hl
      rw [lst_set] at hl
      by_cases e : j = i
      · subst e; exact hi
      · rw [if_neg e] at hl; exact hc.sub j hj hl
    · have := tv_step hdst hlt (S := lst listed) (S' := lst (listed.setIfInBounds i true)) h7 (by rw [lst_set, if_pos rfl]) (fun k hk => by rw [lst_set, if_neg hk]) hc.ant hc.real (val i)
      intro t
      rw [this t]
      congr 1
      funext k
      by_cases e : k = i
      · subst e; simp
      · simp [e]
    · cases o.dst <;> simp [Act.put, hc.ant]
    · cases o.dst <;> simp [Act.put, hc.adf]
    · intro j hj hl
      rw [lst_set] at hl
      by_cases e : j = i
      · rw [if_pos e] at hl; cases hl
      · rw [if_neg e] at hl; exact hc.pend j hj hl
  have hK' := hK _ hdone
  have hfact : Fact P tk ops nt a0 o val p1 (val i) (fun w' => w' = w) := by
    rcases h11 with ⟨pb1, env1, x, h11, h12⟩ | ⟨_, h11, _⟩
    · intro a' w' hn' ht' hc'
      refine h11 a' w' hn' ht' (fun hh => ?_)
      have := hc' hh
      subst this
      obtain ⟨hx, rfl, hag⟩ := h12 hh
      have hle : Heap.le x h := hc.les x hx
      refine ⟨fun b o hb => hc.hsub b o (hle b o hb), fun k b hk => ?_⟩
      obtain ⟨c, t, h1, h2, h3⟩ := hc.hpriv k b hk
      refine ⟨c, t, (hag k b hk).trans h1, h2, ?_⟩
      cases hxb : x b with
      | none => rfl
      | some ob => rw [hle b ob hxb] at h3; cases h3
    · intro a' w' hn' ht' hc'
      refine h11 a' w' hn' ht' (fun hh => ?_)
      have := hc' hh
      subst this
      exact ⟨hc.hsub, hc.hpriv⟩
  rcases hfact a w hc.ant hs (fun _ => rfl) with ⟨h1, h2⟩ | ⟨h1, h2⟩
  · unfold wpOp
    simp only [h7, h1, if_true, Oper.wp, h2, Oper.upon]
    exact .inl hK'
  · unfold wpOp
    simp only [h7, h1]
    rw [← h2]; exact hK'
theorem wpOp_transfer {ops : Array Oper} {x : Nat} {o : Oper} (ho : ops[x]? = some o) (hns : ∀ cs b, o.op ≠ .select cs b) {a ah : Act} {w : World} (hn : a.tmps.size = ah.tmps.size)
    (hag : ∀ t ∈ o.looksAt ops, a.tmps.getD t undef = ah.tmps.getD t undef) {R : Act → World → Prop} (hR : ∀ a' w', R a' w' → a'.defers = []) {Q : Exit → Act → World → Prop}
    (h : wpOps P ops (fun e a' w' => e = .normal ∧ R a' w') [x] ah w) : wpOp P ops Q x (fun a' w' => ∃ y, a' = a.put o.dst y ∧ R (ah.put o.dst y) w') a w := by
  unfold wpOp
  simp only [wpOps, ho] at h ⊢
  rw [wanted_agree hn hag]
  split
  · rename_i hw
    rw [if_pos hw] at h
    rcases h with h | ⟨_, _, _, h, _⟩
    · refine .inl ?_
      unfold Oper.wp at h ⊢
      rw [execOp_congr o hns (eval_agree hag)]
      generalize (execOp ah.eval o).run P w = r at h ⊢
      cases r with
      | ok n w' =>
        cases n <;> simp only [Oper.upon] at h ⊢
        case value u => exact ⟨u, rfl, h.2⟩
        case skip => exact ⟨_, rfl, h.2⟩
        case defer d =>
          have := hR _ _ h.2
          exfalso; revert this; cases o.dst <;> simp [Act.put]
        case enter f args =>
          refine Calls.mono h fun e w'' he => ?_
          cases e with
          | returned u => exact ⟨u, rfl, he.2⟩
          | panicked c => cases he.1
          | outgrown => obtain ⟨_, _, he, _⟩ := he; cases he
        case row row args => exact Rows.mono h fun u w'' he => ⟨u, rfl, he.2⟩
      | halt e w' =>
        cases e <;> simp only [Oper.upon] at h
        case panic u => cases h.1
    · cases h
  · rename_i hw
    rw [if_neg hw] at h
    exact ⟨_, rfl, h.2⟩
end Go.Cw
namespace Go.Cw
open Go
variable {P : Program} {N : Num} {tk fk : Nat → Option Nat} {Γ : Ctx}
inductive DP where
  | done (L : List Nat)
  | eff (L : List Nat) (x : Nat) (r : DP)
  | alt (L : List Nat) (x : Nat) (r : DP) (y : Nat) (r' : DP)
  deriving Inhabited
def effOk (P : Program) (tk : Nat → Option Nat) (ops : Array Oper) (pt : PT) (pre : List Nat) (x : Nat) (s : Stg) : Bool :=
  oneOk ops pt pre x && (match s.eff with
    | some ei => !ei.prom || !flagOf P tk ops pt pre x
    | none => false)
def collectW (g : Nat → Option Ex) (p : Rec → Bool) : List Rec → Option (List Let)
  | [] => some []
  | r :: rs =>
    if p r then
      match pathEx g r.path, collectW g p rs with
      | some gs, some l => some (⟨gs, 0, r.ex⟩ :: l)
      | _, _ => none
    else collectW g p rs
theorem collectW_spec {g : Nat → Option Ex} {p : Rec → Bool} : ∀ {rs : List Rec} {wx : List Let}, collectW g p rs = some wx → ∀ r ∈ rs, p r = true → ∃ gs, pathEx g r.path = some gs ∧ (⟨gs, 0, r.ex⟩ : Let) ∈ wx := by
  intro rs
  induction rs with
  | nil => intro wx _ r hr; simp at hr
  | cons a rs ih =>
    intro wx h r hr hp
    simp only [collectW] at h
    split at h
    · rename_i hpa
      split at h <;> cases h
      rename_i gs l h1 h2
      simp only [List.mem_cons] at hr
      rcases hr with rfl | hr
      · exact ⟨gs, h1, by simp⟩
      · obtain ⟨gs', h3, h4⟩ := ih h2 r hr hp
        exact ⟨gs', h3, by simp [h4]⟩
    · rename_i hpa
      simp only [List.mem_cons] at hr
      rcases hr with rfl | hr
      · rw [hp] at hpa; exact absurd rfl hpa
      · exact ih h r hr hp
def waitsFor (P : Program) (tk : Nat → Option Nat) (ops : Array Oper) (pt : PT) (x : Nat) (r : Rec) : Bool :=
  isPure (ops.getD r.idx default).op && heapyOp P tk (ops.getD r.idx default).op && !(prs pt x).contains r.idx
def wxOf (P : Program) (tk fk : Nat → Option Nat) (ops : Array Oper) (nt : Nat) (m : Lmap) (pt : PT) (L : List Nat) (x : Nat) : Option (List Let) :=
  match pureL P tk fk ops nt L (sg0 ops.size 0 m) with
  | some (rs, _) => collectW (gOf rs (sg0 ops.size 0 m)) (waitsFor P tk ops pt x) rs
  | none => none
theorem dsK_out {fl : Bool} {wx : List Let} {ws : List Heap} {env : Env} {h : Heap} {K : List Heap → Env → Heap → Prop} {env' : Env} {h' : Heap} (hk : dsK N fl wx ws env h K env' h') :
    ∃ (z : Heap) (ws' : List Heap), K ws' env' h' ∧ (∀ y ∈ ws', Heap.le y h') ∧ (fl = true → ∀ y ∈ ws, y ∈ ws') ∧ (wx ≠ [] → fl = true → z ∈ ws' ∧ (z = h ∨ (Heap.le z h ∧ ∀ l ∈ wx, covX N env z l))) := by
  unfold dsK at hk
  split at hk
  · obtain ⟨h1, h2⟩ := hk
    cases fl with
    | true => exact ⟨h, ws, h2, h1 rfl, fun _ y hy => hy, fun h => absurd rfl h⟩
    | false => exact ⟨h, [], h2, by simp, (by simp), fun h => absurd rfl h⟩
  · obtain ⟨z, h0, h1, h2⟩ := hk
    cases fl with
    | true => exact ⟨z, z :: ws, h2, h1 rfl, fun _ y hy => List.mem_cons_of_mem _ hy, fun _ _ => ⟨by simp, h0⟩⟩
    | false => exact ⟨z, [], h2, by simp, (by simp), fun _ h => by cases h⟩
def dcomp (P : Program) (tk fk : Nat → Option Nat) (ops : Array Oper) (nt : Nat) (m : Lmap) (pt : PT) : List Nat → DP → Option DS
  | pre, .done L =>
    match stage P tk fk ops nt m L none with
    | some s => if blockOk ops pt pre L && (List.range ops.size).all (pre ++ L).contains then some (.done s) else none
    | none => none
  | pre, .eff L x r =>
    match stage P tk fk ops nt m L (some x), dcomp P tk fk ops nt m pt (pre ++ L ++ [x]) r, wxOf P tk fk ops nt m pt L x with
    | some s, some d, some wx => if blockOk ops pt pre L && effOk P tk ops pt (pre ++ L) x s && laterOk ops pt (pre ++ L ++ [x]) x then some (.eff (flagOf P tk ops pt (pre ++ L) x) wx s d) else none
    | _, _, _ => none
  | pre, .alt L x r y r' =>
    match stage P tk fk ops nt m L (some x), dcomp P tk fk ops nt m pt (pre ++ L ++ [x]) r, stage P tk fk ops nt m L (some y), dcomp P tk fk ops nt m pt (pre ++ L ++ [y]) r', wxOf P tk fk ops nt m pt L x, wxOf P tk fk ops nt m pt L y with
    | some s, some d, some s', some d', some wx, some wx' =>
      if blockOk ops pt pre L && effOk P tk ops pt (pre ++ L) x s && effOk P tk ops pt (pre ++ L) y s' && laterOk ops pt (pre ++ L ++ [x, y]) x then
        some (.alt (flagOf P tk ops pt (pre ++ L) x) wx s d (flagOf P tk ops pt (pre ++ L) y) wx' s' d') else none
    | _, _, _, _, _, _ => none
def dregOk (P : Program) (tk fk : Nat → Option Nat) (ops : Array Oper) (nt : Nat) (m : Lmap) (pt : PT) (p : DP) : Option DS :=
  if prOk ops pt && dstOk ops && dstLt ops nt && Region.noSelect ops then dcomp P tk fk ops nt m pt [] p else none
theorem DCore.eff (htk : ∀ t k, tk t = some k → N.tid k = t) (hfk : ∀ f k, fk f = some k → N.fid k = f) (hΓ : Good P N Γ)
    {ops : Array Oper} {nt : Nat} {pt : PT} {a0 : Nat → Value} {pre : List Nat} {listed : Array Bool} {a : Act} {w : World} {ah : Act} {val : Nat → Value} {pb : Nat → Option Nat} {env : Env} {h : Heap} {ws : List Heap} {Lc : List Nat} {Cv : Nat → Heap → Prop}
    (hc : DCore P tk ops nt pt a0 pre listed a w ah val pb env h ws Lc Cv) (hp : prOk ops pt = true) (hdst : dstOk ops = true) (hlt : dstLt ops nt = true) (hns : Region.noSelect ops = true)
    {m : Lmap} (hnd : (m.map (·.1)).Nodup) {h0 : Heap} {w0 : World} {env1 : Env} {s : Sg} {g : Nat → Option Ex} {o : Oper} {ei : EI} {c : List (Nat × Pth)} {st : Stg} {x : Nat} (ho : ops[x]? = some o) (heff : effOf P tk fk ops nt m g s o = some (ei, c))
    (hi : SInv N env h g pb s ah) (hr : Rel m nt h0 w0 pb env1 h ah w) (hkeep : ∀ i slot, m[i]? = some (slot, true) → env1.get i = env.get i) (hst : st.eff = some ei) (hok : effOk P tk ops pt pre x st = true)
    {K : List Heap → Env → Heap → Prop} {wx : List Let} (hwx : ∀ i ∈ Lc, isPure (ops.getD i default).op = true → heapyOp P tk (ops.getD i default).op = true → (prs pt x).contains i = false → wx ≠ [] ∧ ∀ z, Heap.le z h → (∀ l ∈ wx, covX N env z l) → Cv i z)
    (hK : eiW N Γ ei env env1 h (dsK N (flagOf P tk ops pt pre x) wx ws env h K)) {Q : Exit → Act → World → Prop} (hx : x ∈ Region.ready .any ops listed) :
    wpOp P ops Q x (fun a' w' => ∃ val' ah' pb' env' h' ws', DCore P tk ops nt pt a0 (pre ++ [x]) (listed.setIfInBounds x true) a' w' ah' val' pb' env' h' ws' [] (fun _ _ => False) ∧ Rel m nt h0 w0 pb' env' h' ah' w' ∧ K ws' env' h') a w := by
  unfold effOk at hok
  rw [hst] at hok
  simp only [Bool.and_eq_true, Bool.or_eq_true, Bool.not_eq_true'] at hok
  obtain ⟨hone, hprom⟩ := hok
  obtain ⟨hxs, hxp, hxsee, hxb⟩ := oneOk_spec hone
  have hsee := hc.sees hp hx ho hxsee
  have hsel := Region.noSelect_spec hns
  have h1 := eff_step htk hfk hΓ ho heff hnd hi hr hkeep hK (Q := fun e a' w' => e = .normal ∧ ∃ pb' env' h', dsK N (flagOf P tk ops pt pre x) wx ws env h K env' h' ∧ Rel m nt h0 w0 pb' env' h' a' w' ∧
    (ei.prom = false → pb' = pb ∧ ∀ (i slot : Nat), m[i]? = some (slot, true) → env'.get i = env1.get i)) (rest := [])
    (fun pb' env' h' a' w' hk hr' hpr => by simp only [wpOps]; exact ⟨trivial, pb', env', h', hk, hr', hpr⟩)
  have h2 := wpOp_transfer (Q := Q) ho (fun cs b => hsel x o cs b ho) (a := a) (hc.ant.trans hc.hnt.symm) (fun t ht => by rw [hsee t ht, hc.hyp t]) (by rintro a' w' ⟨_, _, _, _, hr', _⟩; exact hr'.df) h1
  refine wpOp_mono ?_ h2
  rintro a' w' ⟨y, rfl, pb', env', h', hk, hr', hpr⟩
  obtain ⟨zh, ws', hk2, hk1, hkw, hkz⟩ := dsK_out hk
  clear hk
  refine ⟨fun i => if i = x then y else val i, ah.put o.dst y, pb', env', h', ws', ?_, hr', hk2⟩
  have hother : ∀ i ∈ pre, i ≠ x := fun i hi e => hxp (e ▸ hi)
  refine ⟨by simpa using hc.len, ?_, ?_, ?_, ?_, ?_, ?_, ?_, ?_, hr'.nt, hr'.df, hr'.step.sub, hr'.priv, ?_, ?_⟩
  · intro j hj hl k hk
    rw [lst_set] at hl ⊢
    by_cases e : j = x
    · subst e
      rw [ready_closed hp hc.closed hc.len hx k hk]; simp
    · rw [if_neg e] at hl
      rw [hc.closed j hj hl k hk]; simp
  · intro j hj hl
    rw [lst_set] at hl
    by_cases e : j = x
    · subst e; simp
    · rw [if_neg e] at hl; exact List.mem_append_left _ (hc.sub j hj hl)
  · intro p1 i p2 e
    rcases split_append e with ⟨q, e1, e2⟩ | ⟨L1, e1, e2⟩
    · exact hc.ord p1 i q e1
    · cases L1 with
      | nil => simp at e1; obtain ⟨rfl, rfl⟩ := e1; rw [e2]; exact ⟨hxs, by simpa using hxb⟩
      | cons z L1 => simp at e1
  · rw [List.nodup_append]
    refine ⟨hc.nd, by simp, ?_⟩
    intro a ha b hb e
    simp only [List.mem_singleton] at hb
    subst hb; exact hother a ha e
  · exact tv_step hdst hlt (S := lst listed) (S' := lst (listed.setIfInBounds x true)) ho (by rw [lst_set, if_pos rfl]) (fun k hk => by rw [lst_set, if_neg hk]) hc.ant hc.real y
  · cases o.dst <;> simp [Act.put, hc.ant]
  · cases o.dst <;> simp [Act.put, hc.adf]
  · exact tv_step hdst hlt (S := inL pre) (S' := inL (pre ++ [x])) ho (by simp [inL]) (fun k hk => by simp [inL, hk]) hc.hnt hc.hyp y
  · exact hk1
  · intro i hip hl
    rw [lst_set] at hl
    by_cases e : i = x
    · rw [if_pos e] at hl; cases hl
    · rw [if_neg e] at hl
      have hip' : i ∈ pre := by simpa [e] using hip
      obtain ⟨o', p1, p2, h7, h8, h9, h10, h11⟩ := hc.pend i hip' hl
      have hcong : ∀ {C : World → Prop}, Fact P tk ops nt a0 o' val p1 (val i) C → Fact P tk ops nt a0 o' (fun i => if i = x then y else val i) p1 (if i = x then y else val i) C := by
        intro C hf
        rw [if_neg e]
        exact hf.congr fun k hk => by rw [if_neg (hother k (by rw [h8]; exact List.mem_append_left _ hk))]
      have hncon : (prs pt x).contains i = false := by
        cases hcx : (prs pt x).contains i with
        | false => rfl
        | true =>
          have := ready_closed hp hc.closed hc.len hx i (List.contains_iff_mem.1 hcx)
          rw [hl] at this; cases this
      have hfl : heapyOp P tk o'.op = true → flagOf P tk ops pt pre x = true := by
        intro hh
        refine List.any_eq_true.2 ⟨i, hip', ?_⟩
        rw [getD_ops h7, h10, hh, hncon]; rfl
      have hag : heapyOp P tk o'.op = true → pb = pb' ∧ ∀ k b, pb' k = some b → env.get k = env'.get k := by
        intro hh
        have hpf : ei.prom = false := by
          rcases hprom with h | h
          · exact h
          · rw [hfl hh] at h; cases h
        obtain ⟨e1, hpr2⟩ := hpr hpf
        refine ⟨e1.symm, fun k b hk => ?_⟩
        obtain ⟨slot, hms, _⟩ := hr'.pbm k b hk
        rw [hpr2 k slot hms, hkeep k slot hms]
      refine ⟨o', p1, p2 ++ [x], h7, by rw [h8]; simp, h9, h10, .inl ?_⟩
      rcases h11 with ⟨pb1, en1, xh, f1, f2⟩ | ⟨hL, f1, f2⟩
      · refine ⟨pb1, en1, xh, hcong f1, fun hh => ?_⟩
        obtain ⟨h13, h14, h15⟩ := f2 hh
        obtain ⟨a1, a2⟩ := hag hh
        exact ⟨hkw (hfl hh) _ h13, h14.trans a1, fun k b hk => by rw [h15 k b (a1 ▸ hk), a2 k b hk]⟩
      · cases hh : heapyOp P tk o'.op with
        | false => exact ⟨pb, env, h, hcong f1, fun h => by cases h⟩
        | true =>
          obtain ⟨w1, w2⟩ := hwx i hL (by rw [getD_ops h7]; exact h10) (by rw [getD_ops h7]; exact hh) hncon
          obtain ⟨z1, z2⟩ := hkz w1 (hfl hh)
          obtain ⟨a1, a2⟩ := hag hh
          refine ⟨pb, env, zh, hcong ?_, fun _ => ⟨z1, a1, a2⟩⟩
          rcases z2 with rfl | ⟨z2, z3⟩
          · exact f1
          · exact f2 zh z2 (w2 zh z2 z3)
theorem countP_one {l : List Nat} (hl : l.Nodup) {p q : Nat → Bool} {i : Nat} (hi : i ∈ l) (h1 : p i = true) (h2 : ∀ j, q j = if j = i then false else p j) : l.countP p = l.countP q + 1 := by
  induction l with
  | nil => cases hi
  | cons x l ih =>
    rw [List.nodup_cons] at hl
    simp only [List.mem_cons] at hi
    by_cases e : x = i
    · subst e
      have : l.countP p = l.countP q := List.countP_congr fun j hj => by
        have : j ≠ x := fun e => hl.1 (e ▸ hj)
        rw [h2 j, if_neg this]
      simp [List.countP_cons, h1, h2 x, this]
    · have hi' : i ∈ l := hi.resolve_left (fun e' => e e'.symm)
      have := ih hl.2 hi'
      simp only [List.countP_cons, this, h2 x, if_neg e]
      omega
def left (n : Nat) (listed : Array Bool) : Nat := (List.range n).countP fun i => !lst listed i
theorem left_set {n : Nat} {listed : Array Bool} {i : Nat} (hi : i < n) (hl : lst listed i = false) : left n listed = left n (listed.setIfInBounds i true) + 1 :=
  countP_one List.nodup_range (by simpa using hi) (by simp [hl]) (fun j => by rw [lst_set]; split <;> simp)
theorem Rel.same {m : Lmap} {nt : Nat} {h0 : Heap} {w0 : World} {pb : Nat → Option Nat} {env : Env} {h : Heap} {a a' : Act} {w : World} (hr : Rel m nt h0 w0 pb env h a w)
    (h1 : ∀ t, a'.tmps.getD t undef = a.tmps.getD t undef) (h2 : a'.tmps.size = nt) (h3 : a'.defers = []) : Rel m nt h0 w0 pb env h a' w :=
  ⟨hr.elen, fun i slot hm v hv => by rw [h1]; exact hr.plain i slot hm v hv, fun i slot hm v hv => by
    obtain ⟨b, hb, hb'⟩ := hr.prom i slot hm v hv
    exact ⟨b, hb, by rw [h1]; exact hb'⟩, hr.priv, hr.pbm, hr.inj, hr.step, h2, h3⟩
section
variable {ops : Array Oper} {nt : Nat} {pt : PT} {a0 : Nat → Value} {pre : List Nat} {w : World} {ah : Act} {val : Nat → Value} {pb : Nat → Option Nat} {env : Env} {h : Heap} {ws : List Heap} {Lc : List Nat} {Cv : Nat → Heap → Prop} {Q : Exit → Act → World → Prop}
theorem done_any (hp : prOk ops pt = true) (hdst : dstOk ops = true) (hlt : dstLt ops nt = true) (hall : ∀ i, i < ops.size → i ∈ pre)
    (hQ : ∀ a, (∀ t, a.tmps.getD t undef = ah.tmps.getD t undef) → a.tmps.size = nt → a.defers = [] → Q .normal a w) :
    ∀ (f : Nat) (listed : Array Bool) (a : Act), DCore P tk ops nt pt a0 pre listed a w ah val pb env h ws Lc Cv → left ops.size listed ≤ f → wpAny P .any ops Q f listed a w := by
  have fin : ∀ (listed : Array Bool) (a : Act), DCore P tk ops nt pt a0 pre listed a w ah val pb env h ws Lc Cv → (∀ i ∈ pre, lst listed i = true) → Q .normal a w := by
    intro listed a hc hl
    refine hQ a (fun t => ?_) hc.ant hc.adf
    rw [hc.real t, hc.hyp t]
    unfold tv
    cases hw : wrOf ops t with
    | none => rfl
    | some i =>
      have hlt' : i < ops.size := by have := List.mem_of_find?_eq_some hw; simpa using this
      have hm := hall i hlt'
      simp [hl i hm, inL, hm]
  intro f
  induction f with
  | zero =>
    intro listed a hc hl
    have hz : ∀ i, i < ops.size → lst listed i = true := by
      intro i hi
      have h0 : (List.range ops.size).countP (fun i => !lst listed i) = 0 := by unfold left at hl; omega
      have := (List.countP_eq_zero.1 h0) i (by simpa using hi)
      simpa using this
    refine ⟨?_, fin listed a hc fun i hi => ?_⟩
    · cases hr : Region.ready .any ops listed with
      | nil => rfl
      | cons x xs =>
        have hx : x ∈ Region.ready .any ops listed := by rw [hr]; simp
        have h1 := mem_ready.1 hx
        obtain ⟨h2, o, ho, _⟩ := h1
        have := hz x (Array.getElem?_eq_some_iff.1 ho).1
        unfold lst at this
        rw [h2] at this; cases this
    · obtain ⟨p1, p2, e⟩ := List.append_of_mem hi
      exact hz i (hc.ord p1 i p2 e).1
  | succ f ih =>
    intro listed a hc hl
    refine ⟨fun hr => fin listed a hc (progress hc.len hr _ pre rfl hc.ord), fun i hi => ?_⟩
    obtain ⟨h1, o, ho, _⟩ := mem_ready.1 hi
    have hsz := (Array.getElem?_eq_some_iff.1 ho).1
    have := left_set hsz (show lst listed i = false from h1)
    exact hc.pure hp hdst hlt hi (hall i hsz) fun a' hc' => ih _ _ hc' (by omega)
theorem step_any (hp : prOk ops pt = true) (hdst : dstOk ops = true) (hlt : dstLt ops nt = true) {xs : List Nat} {x0 : Nat} (hx0 : x0 ∈ xs) (hone : oneOk ops pt pre x0 = true) (hlater : laterOk ops pt (pre ++ xs) x0 = true) {F : Nat}
    (hstep : ∀ f, f < F → ∀ (listed : Array Bool) (a : Act), DCore P tk ops nt pt a0 pre listed a w ah val pb env h ws Lc Cv → ∀ x ∈ xs, x ∈ Region.ready .any ops listed → left ops.size listed ≤ f + 1 →
      wpOp P ops Q x (wpAny P .any ops Q f (listed.setIfInBounds x true)) a w) :
    ∀ (f : Nat), f ≤ F → ∀ (listed : Array Bool) (a : Act), DCore P tk ops nt pt a0 pre listed a w ah val pb env h ws Lc Cv → left ops.size listed ≤ f → wpAny P .any ops Q f listed a w := by
  obtain ⟨hs0, hn0, _, hb0⟩ := oneOk_spec hone
  have hun : ∀ (listed : Array Bool) (a : Act), DCore P tk ops nt pt a0 pre listed a w ah val pb env h ws Lc Cv → lst listed x0 = false := by
    intro listed a hc
    cases hl : lst listed x0 with
    | false => rfl
    | true => exact absurd (hc.sub x0 hs0 hl) hn0
  intro f
  induction f with
  | zero =>
    intro _ listed a hc hl
    have h0 : (List.range ops.size).countP (fun i => !lst listed i) = 0 := by unfold left at hl; omega
    have := (List.countP_eq_zero.1 h0) x0 (by simpa using hs0)
    rw [hun listed a hc] at this
    exact absurd rfl this
  | succ f ih =>
    intro hF listed a hc hl
    refine ⟨fun hr => ?_, fun i hi => ?_⟩
    · have := progress hc.len hr _ (pre ++ [x0]) rfl (by
        intro p1 i p2 e
        rcases split_append e with ⟨q, e1, e2⟩ | ⟨L1, e1, e2⟩
        · exact hc.ord p1 i q e1
        · cases L1 with
          | nil => simp at e1; obtain ⟨rfl, rfl⟩ := e1; rw [e2]; exact ⟨hs0, by simpa using hb0⟩
          | cons z L1 => simp at e1) x0 (by simp)
      rw [hun listed a hc] at this; cases this
    · obtain ⟨h1, o, ho, _⟩ := mem_ready.1 hi
      have hsz := (Array.getElem?_eq_some_iff.1 ho).1
      have hls := left_set hsz (show lst listed i = false from h1)
      by_cases hip : i ∈ pre
      · exact hc.pure hp hdst hlt hi hip fun a' hc' => ih (by omega) _ _ hc' (by omega)
      · by_cases hix : i ∈ xs
        · exact hstep f (by omega) listed a hc i hix hi hl
        · have h2 := List.all_eq_true.1 hlater i (by simpa using hsz)
          simp only [Bool.or_eq_true, List.contains_iff_mem, List.mem_append, hip, hix, or_self, false_or] at h2
          have := ready_closed hp hc.closed hc.len hi x0 h2
          rw [hun listed a hc] at this; cases this
end
theorem wx_cov {ops : Array Oper} {nt : Nat} {m : Lmap} {pt : PT} {L : List Nat} {x : Nat} {wx : List Let} {rs : List Rec} {s : Sg} {g : Nat → Option Ex} {env : Env} {h : Heap} (hwx : wxOf P tk fk ops nt m pt L x = some wx)
    (hp : pureL P tk fk ops nt L (sg0 ops.size 0 m) = some (rs, s)) (hg : g = gOf rs (sg0 ops.size 0 m)) (hrec : ∀ i ∈ L, ∃ r ∈ rs, r.idx = i) :
    ∀ i ∈ L, isPure (ops.getD i default).op = true → heapyOp P tk (ops.getD i default).op = true → (prs pt x).contains i = false → wx ≠ [] ∧ ∀ z, Heap.le z h → (∀ l ∈ wx, covX N env z l) →
      ∃ r ∈ rs, r.idx = i ∧ evP N env z g r.path ≠ none ∧ (evP N env z g r.path = some true → r.move = true ∨ ∃ u, ev N env z r.ex = some u) := by
  intro i hi h1 h2 h3
  obtain ⟨r, hr, rfl⟩ := hrec i hi
  unfold wxOf at hwx
  rw [hp] at hwx
  simp only at hwx
  obtain ⟨gs, h4, h5⟩ := collectW_spec hwx r hr (by simp only [waitsFor, h1, h2, h3]; rfl)
  refine ⟨fun e => by rw [e] at h5; simp at h5, fun z _ hcov => ⟨r, hr, rfl, ?_⟩⟩
  obtain ⟨b, h6, h7⟩ := hcov _ h5
  rw [evGs_path _ _ h4, ← hg] at h6
  refine ⟨by rw [h6]; simp, fun h8 => .inr ?_⟩
  rw [h6] at h8; cases h8
  exact h7 rfl
theorem dreg_sound (htk : ∀ t k, tk t = some k → N.tid k = t) (hfk : ∀ f k, fk f = some k → N.fid k = f) (hΓ : Good P N Γ) {ops : Array Oper} {nt : Nat} {pt : PT} {a0 : Nat → Value}
    (hp : prOk ops pt = true) (hdst : dstOk ops = true) (hlt : dstLt ops nt = true) (hns : Region.noSelect ops = true) {m : Lmap} (hnd : (m.map (·.1)).Nodup) {h0 : Heap} {w0 : World}
    {K : Env → Heap → Prop} {Q : Exit → Act → World → Prop} (hQ : Next m nt h0 w0 K (fun a w => Q .normal a w)) :
    ∀ (fuel : Nat) (p : DP) (d : DS) (pre : List Nat) (listed : Array Bool) (a : Act) (w : World) (ah : Act) (val : Nat → Value) (pb : Nat → Option Nat) (env : Env) (h : Heap) (ws : List Heap),
      dcomp P tk fk ops nt m pt pre p = some d → DCore P tk ops nt pt a0 pre listed a w ah val pb env h ws [] (fun _ _ => False) → Rel m nt h0 w0 pb env h ah w → dsW N Γ d ws env h K → left ops.size listed ≤ fuel →
      wpAny P .any ops Q fuel listed a w := by
  intro fuel
  induction fuel using Nat.strongRecOn with
  | _ fuel IH =>
    intro p d pre listed a w ah val pb env h ws hd hc hr hK hl
    cases p with
    | done L =>
      simp only [dcomp] at hd
      split at hd
      · rename_i s hs
        split at hd <;> cases hd
        rename_i hok
        simp only [Bool.and_eq_true, List.all_eq_true, List.contains_iff_mem, List.mem_range] at hok
        obtain ⟨rs, s', g, env1, hgd, h1, h2, h3, h4, h5, h6, h7⟩ := stage_core hnd hr hs hK
        obtain ⟨val', ah', h8, hrec, h9⟩ := hc.block htk hfk hdst hok.1 h1 h2 h3 h4
        have hr' := h5 ah' h9 h8.hnt (h8.hdf.trans hc.hdf.symm)
        exact done_any hp hdst hlt hok.2 (fun a' e1 e2 e3 => hQ _ _ _ _ _ h7 (hr'.same e1 e2 e3)) fuel listed a h8 hl
      · cases hd
    | eff L x r =>
      simp only [dcomp] at hd
      split at hd
      · rename_i s d' wx hs hd' hwx
        split at hd <;> cases hd
        rename_i hok
        simp only [Bool.and_eq_true] at hok
        obtain ⟨rs, s', g, env1, hgd, h1, h2, h3, h4, h5, h6, o, ei, c, ho, heff, hst, h7⟩ := stage_core hnd hr hs hK
        obtain ⟨val', ah', h8, hrec, h9⟩ := hc.block htk hfk hdst hok.1.1 h1 h2 h3 h4
        have hr' := h5 ah' h9 h8.hnt (h8.hdf.trans hc.hdf.symm)
        have hone : oneOk ops pt (pre ++ L) x = true := by
          have := hok.1.2
          unfold effOk at this
          simp only [Bool.and_eq_true] at this
          exact this.1
        refine step_any hp hdst hlt (xs := [x]) (by simp) hone hok.2 (F := fuel) (fun f hf listed' a' hc' y hy hry hly => ?_) fuel (Nat.le_refl _) listed a h8 hl
        simp only [List.mem_singleton] at hy; subst hy
        refine wpOp_mono ?_ (hc'.eff htk hfk hΓ hp hdst hlt hns hnd ho heff h9 hr' h6 hst hok.1.2 (wx_cov hwx h1 hgd hrec) h7 hry)
        rintro a2 w2 ⟨val2, ah2, pb2, env2, hh2, ws2, h10, h11, h12⟩
        obtain ⟨hun, _, ho', _⟩ := mem_ready.1 hry
        have := left_set (Array.getElem?_eq_some_iff.1 ho).1 (show lst listed' y = false from hun)
        exact IH f hf r d' _ _ a2 w2 ah2 val2 pb2 env2 hh2 ws2 hd' h10 h11 h12 (by omega)
      · cases hd
    | alt L x r y r' =>
      simp only [dcomp] at hd
      split at hd
      · rename_i s d1 s2 d2 wx wx' hs hd1 hs2 hd2 hwx hwx'
        split at hd <;> cases hd
        rename_i hok
        simp only [Bool.and_eq_true] at hok
        obtain ⟨⟨⟨hok1, hok2⟩, hok3⟩, hok4⟩ := hok
        obtain ⟨rs, s', g, env1, hgd, h1, h2, h3, h4, h5, h6, o, ei, c, ho, heff, hst, h7⟩ := stage_core hnd hr hs hK.1
        obtain ⟨rs', s'', g', env1', hgd', h1', h2', h3', h4', h5', h6', o', ei', c', ho', heff', hst', h7'⟩ := stage_core hnd hr hs2 hK.2
        rw [h1] at h1'
        cases h1'
        subst hgd'
        subst hgd
        obtain ⟨val', ah', h8, hrec, h9⟩ := hc.block htk hfk hdst hok1 h1 h2 h3 h4
        have hr' := h5 ah' h9 h8.hnt (h8.hdf.trans hc.hdf.symm)
        have hr'' := h5' ah' h9 h8.hnt (h8.hdf.trans hc.hdf.symm)
        have hone : oneOk ops pt (pre ++ L) x = true := by
          have := hok2
          unfold effOk at this
          simp only [Bool.and_eq_true] at this
          exact this.1
        refine step_any hp hdst hlt (xs := [x, y]) (by simp) hone hok4 (F := fuel) (fun f hf listed' a' hc' z hz hrz hlz => ?_) fuel (Nat.le_refl _) listed a h8 hl
        obtain ⟨hun, oz, hoz, _⟩ := mem_ready.1 hrz
        have hleft := left_set (Array.getElem?_eq_some_iff.1 hoz).1 (show lst listed' z = false from hun)
        simp only [List.mem_cons, List.not_mem_nil, or_false] at hz
        rcases hz with rfl | rfl
        · refine wpOp_mono ?_ (hc'.eff htk hfk hΓ hp hdst hlt hns hnd ho heff h9 hr' h6 hst hok2 (wx_cov hwx h1 rfl hrec) h7 hrz)
          rintro a2 w2 ⟨val2, ah2, pb2, env2, hh2, ws2, h10, h11, h12⟩
          exact IH f hf r d1 _ _ a2 w2 ah2 val2 pb2 env2 hh2 ws2 hd1 h10 h11 h12 (by omega)
        · refine wpOp_mono ?_ (hc'.eff htk hfk hΓ hp hdst hlt hns hnd ho' heff' h9 hr'' h6' hst' hok3 (wx_cov hwx' h1 rfl hrec) h7' hrz)
          rintro a2 w2 ⟨val2, ah2, pb2, env2, hh2, ws2, h10, h11, h12⟩
          exact IH f hf r' d2 _ _ a2 w2 ah2 val2 pb2 env2 hh2 ws2 hd2 h10 h11 h12 (by omega)
      · cases hd
theorem sound_dreg (htk : ∀ t k, tk t = some k → N.tid k = t) (hfk : ∀ f k, fk f = some k → N.fid k = f) (hΓ : Good P N Γ) (hmix : P.follows .mixedOrders = true) {ops : Array Oper} {nt : Nat} {pt : PT} {m : Lmap} (hnd : (m.map (·.1)).Nodup)
    {id : Nat} {p : DP} {d : DS} (hd : dregOk P tk fk ops nt m pt p = some d) : Sound P N Γ m nt (.dreg d) (.region id ops true) := by
  unfold dregOk at hd
  split at hd
  · rename_i hok
    simp only [Bool.and_eq_true] at hok
    obtain ⟨⟨⟨h1, h2⟩, h3⟩, h4⟩ := hok
    intro h0 w0 Q Q' pb env h a w hK hr hQ
    refine wp_region_any hmix ?_
    have hr' : Rel m nt h0 w0 pb env h a { w with drawn := w.drawn + 1 } := ⟨hr.elen, hr.plain, hr.prom, hr.priv, hr.pbm, hr.inj, ⟨hr.step.sub, hr.step.size, hr.step.os, hr.step.tape, hr.step.output, hr.step.frame⟩, hr.nt, hr.df⟩
    have hl0 : ∀ i, i < ops.size → lst (Array.replicate ops.size false) i = false := by
      intro i hi
      unfold lst
      simp [Array.getD, hi]
    refine dreg_sound htk hfk hΓ (a0 := fun t => a.tmps.getD t undef) h1 h2 h3 h4 hnd (h0 := h0) (w0 := w0) (K := Q .normal) (Q := Q') (fun pb env h a w hk hr => hQ .normal pb env h a w hk hr) _ p d [] _ a _ a (fun _ => undef) pb env h [] hd ?_ hr' hK ?_
    · refine ⟨by simp, ?_, ?_, ?_, List.nodup_nil, ?_, hr.nt, hr.df, ?_, hr.nt, hr.df, hr'.step.sub, hr'.priv, by simp, by simp⟩
      · intro i hi hl; rw [hl0 i hi] at hl; cases hl
      · intro i hi hl; rw [hl0 i hi] at hl; cases hl
      · intro p1 i p2 e; cases p1 <;> cases e
      · intro t
        unfold tv
        cases hw : wrOf ops t with
        | none => rfl
        | some i =>
          have hlt' : i < ops.size := by have := List.mem_of_find?_eq_some hw; simpa using this
          simp [hl0 i hlt']
      · intro t
        unfold tv
        cases hw : wrOf ops t with
        | none => rfl
        | some i => simp [inL]
    · unfold left
      have := List.countP_le_length (p := fun i => !lst (Array.replicate ops.size false) i) (l := List.range ops.size)
      simpa using this
  · cases hd
end Go.Cw
namespace Go.Cw
open Go
variable {P : Program} {N : Num} {tk fk : Nat → Option Nat} {Γ : Ctx}
def prStep (pt : PT) (bs : List Nat) : List Nat := bs.foldl (fun acc e => (e :: prs pt e).foldl (fun acc k => if acc.contains k then acc else acc ++ [k]) acc) []
def prOf (ops : Array Oper) : PT := ops.toList.foldl (fun pt o => pt ++ [prStep pt (boundOn o)]) []
def freeNow (ops : List Oper) (done : List Nat) : Nat → List (Nat × Oper)
  | i => match ops with
    | [] => []
    | o :: r => if !done.contains i && (boundOn o).all done.contains then (i, o) :: freeNow r done (i + 1) else freeNow r done (i + 1)
def closePure (ops : List Oper) : Nat → List Nat → List Nat → List Nat
  | 0, _, acc => acc
  | fuel + 1, done, acc =>
    match (freeNow ops (done ++ acc) 0).filter (fun x => isPure x.2.op) with
    | [] => acc
    | l => closePure ops fuel done (acc ++ l.map (·.1))
def planOf (ops : List Oper) : Nat → List Nat → DP
  | 0, _ => .done []
  | fuel + 1, done =>
    let L := closePure ops ops.length done []
    match (freeNow ops (done ++ L) 0).map (·.1) with
    | [] => .done L
    | [x] => .eff L x (planOf ops fuel (done ++ L ++ [x]))
    | x :: y :: _ => .alt L x (.eff [] y (planOf ops fuel (done ++ L ++ [x, y]))) y (.eff [] x (planOf ops fuel (done ++ L ++ [y, x])))
def comp (P : Program) (tk fk : Nat → Option Nat) (nt : Nat) (m : Lmap) : Code → Option St
  | .skip => some .skip
  | .ret => some .ret
  | .exit id => some (.exit id)
  | .region _ ops false => (stages P tk fk ops nt m [] (List.range ops.size)).map .reg
  | .region _ ops true => (dregOk P tk fk ops nt m (prOf ops) (planOf ops.toList (ops.size + 1) [])).map .dreg
  | .seq a b =>
    match comp P tk fk nt m a, comp P tk fk nt m b with
    | some s, some t => some (.seq s t)
    | _, _ => none
  | .cond x a b =>
    match condEx m x, comp P tk fk nt m a, comp P tk fk nt m b with
    | some e, some s, some t => some (.cond e s t)
    | _, _, _ => none
  | .block id a => (comp P tk fk nt m a).map (.block id)
  | .loop a => (comp P tk fk nt m a).map .loop
  | _ => none
theorem comp_sound (htk : ∀ t k, tk t = some k → N.tid k = t) (hfk : ∀ f k, fk f = some k → N.fid k = f) (hΓ : Good P N Γ) (hmix : P.follows .mixedOrders = true) {nt : Nat} {m : Lmap} (hnd : (m.map (·.1)).Nodup) :
    ∀ (c : Code) (s : St), comp P tk fk nt m c = some s → Sound P N Γ m nt s c := by
  intro c
  induction c with
  | skip => intro s h; simp only [comp] at h; cases h; exact sound_skip
  | ret => intro s h; simp only [comp] at h; cases h; exact sound_ret
  | exit id => intro s h; simp only [comp] at h; cases h; exact sound_exit
  | region id ops draw =>
    intro s h
    cases draw with
    | false =>
      simp only [comp, Option.map_eq_some_iff] at h
      obtain ⟨l, h, rfl⟩ := h
      exact sound_reg htk hfk hΓ hnd h
    | true =>
      simp only [comp, Option.map_eq_some_iff] at h
      obtain ⟨d, h, rfl⟩ := h
      exact sound_dreg htk hfk hΓ hmix hnd h
  | seq a b iha ihb =>
    intro s h
    simp only [comp] at h
    split at h <;> cases h
    rename_i s t h1 h2
    exact sound_seq (iha _ h1) (ihb _ h2)
  | cond x a b iha ihb =>
    intro s h
    simp only [comp] at h
    split at h <;> cases h
    rename_i e s t h0 h1 h2
    exact sound_cond h0 (iha _ h1) (ihb _ h2)
  | block id a ih =>
    intro s h
    simp only [comp, Option.map_eq_some_iff] at h
    obtain ⟨t, h, rfl⟩ := h
    exact sound_block (ih _ h)
  | loop a ih =>
    intro s h
    simp only [comp, Option.map_eq_some_iff] at h
    obtain ⟨t, h, rfl⟩ := h
    exact sound_loop (ih _ h)
  | _ => intro s h; simp [comp] at h
def compF (P : Program) (tk fk : Nat → Option Nat) (np : Nat) (m : Lmap) (fn : Func) : Option SFun :=
  match fn.body with
  | some c =>
    match comp P tk fk fn.ntmps m c, resEx P m fn.results.toList with
    | some s, some r =>
      if nodupN (m.map (·.1)) && (List.range np).all (fun i => m[i]? == some (i, false)) && decide (np ≤ fn.ntmps) && decide (np ≤ m.length) && !(fn.name == "runtime.NumGoroutine") then some ⟨np, m.length, s, r⟩ else none
    | _, _ => none
  | none => none
theorem compF_sound (htk : ∀ t k, tk t = some k → N.tid k = t) (hfk : ∀ f k, fk f = some k → N.fid k = f) (hΓ : Good P N Γ) (hmix : P.follows .mixedOrders = true) {f : FuncId} {fn : Func} (hf : P.funcs[f]? = some fn)
    {m : Lmap} {np : Nat} {F : SFun} (hF : compF P tk fk np m fn = some F) {args : List Value} {h : Heap} {K : Value → Heap → Prop} (hK : SF N Γ F args h K) : FC P f args h K := by
  unfold compF at hF
  split at hF
  · rename_i c hc
    split at hF
    · rename_i s r hs hr
      split at hF <;> cases hF
      rename_i hok
      simp only [Bool.and_eq_true, decide_eq_true_eq, List.all_eq_true, List.mem_range, beq_iff_eq, Bool.not_eq_true'] at hok
      obtain ⟨⟨⟨⟨h1, h2⟩, h3⟩, h4⟩, h5⟩ := hok
      exact fun_sound hf h5 hc (comp_sound htk hfk hΓ hmix (nodupN_iff _ h1) c s hs) hr rfl h2 h3 h4 hK
    · cases hF
  · cases hF
end Go.Cw
namespace Go.Cw
open Go
variable {P : Program} {N : Num} {tk fk : Nat → Option Nat} {Γ : Ctx}
def FR : Option Nat → Fence
  | none => Fence.wide
  | some l => Fence.wide.inRound l
theorem FR_fn (ro : Option Nat) (f : FuncId) : (FR ro).fn f := by cases ro <;> trivial
theorem FR_round (ro : Option Nat) : (FR ro).round = ro := by cases ro <;> rfl
theorem FR_depth (ro : Option Nat) : (FR ro).depth = none := by cases ro <;> rfl
theorem FR_calls {ro : Option Nat} {n : Nat} {f : FuncId} {args : Array Value} {w : World} {R : Ending → World → Prop} (h : Calls P f args w R) : CallsIn (FR ro) n P f args w R := by
  cases ro with
  | none => exact callsIn_wide.2 h
  | some l => exact (callsIn_wide (n := n)).2 h
theorem FR_rows {ro : Option Nat} {n : Nat} {row : String} {args : Array Value} {w : World} {R : Value → World → Prop} (h : Rows P row args w R) : RowsIn (FR ro) n P row args w R := by
  intro c cs _
  obtain ⟨v, w', h1, h2⟩ := h c cs
  refine ⟨v, w', h1, ?_⟩
  cases ro with
  | none => exact stepsIn_wide.2 h2
  | some l => exact stepsIn_wide.2 h2
def nd (o : Oper) : Bool := match o.op with
  | .defer _ => false
  | _ => true
theorem nd_sem {o : Oper} (h : nd o = true) (ro : Option Nat) (ρ : Operand → Value) : o.semAt ro ρ = execOp ρ o := by
  cases ro with
  | none => rfl
  | some l =>
    refine Oper.semAt_some l ρ o fun c hc => ?_
    simp [nd, hc] at h
def withD (ds : List Deferred) (a : Act) : Act := { a with defers := ds }
theorem withD_put (ds : List Deferred) (a : Act) (d : Option Tmp) (v : Value) : (withD ds a).put d v = withD ds (a.put d v) := by cases d <;> rfl
theorem withD_eval (ds : List Deferred) (a : Act) : (withD ds a).eval = a.eval := rfl
theorem put_defers (a : Act) (d : Option Tmp) (v : Value) : (a.put d v).defers = a.defers := by cases d <;> rfl
theorem calls_some {f : FuncId} {args : Array Value} {w : World} {R : Ending → World → Prop} (h : Calls P f args w R) : ∃ e w', R e w' := by
  obtain ⟨e, w', _, h1, _⟩ := h []
  exact ⟨e, w', h1⟩
theorem rows_some {row : String} {args : Array Value} {w : World} {R : Value → World → Prop} (h : Rows P row args w R) : ∃ v w', R v w' := by
  obtain ⟨v, w', h1, _⟩ := h default []
  exact ⟨v, w', h1⟩
theorem oper_df {o : Oper} {a : Act} {w : World} {K : Act → World → Prop} {Q : Exit → Act → World → Prop} (hQ : ∀ e a w, Q e a w → e = .normal ∧ a.defers = []) (hK : ∀ a w, K a w → a.defers = []) (h : o.wp P a w K Q) : a.defers = [] := by
  unfold Oper.wp at h
  generalize (execOp a.eval o).run P w = r at h
  cases r with
  | ok n w' =>
    cases n <;> simp only [Oper.upon] at h
    case value v => have := hK _ _ h; rwa [put_defers] at this
    case skip => have := hK _ _ h; rwa [put_defers] at this
    case defer d => have := hK _ _ h; rw [put_defers] at this; cases this
    case enter f args =>
      obtain ⟨e, w'', he⟩ := calls_some h
      cases e with
      | returned v => have := hK _ _ he; rwa [put_defers] at this
      | panicked c => have := (hQ _ _ _ he).1; cases this
      | outgrown => obtain ⟨a0, w0, h0⟩ := he; have := (hQ _ _ _ h0).1; cases this
    case row row args =>
      obtain ⟨v, w'', he⟩ := rows_some h
      have := hK _ _ he; rwa [put_defers] at this
  | halt x w' =>
    cases x <;> simp only [Oper.upon] at h
    case panic v => have := (hQ _ _ _ h).1; cases this
theorem wpOp_df {ops : Array Oper} {i : Nat} {a : Act} {w : World} {K : Act → World → Prop} {Q : Exit → Act → World → Prop} (hQ : ∀ e a w, Q e a w → e = .normal ∧ a.defers = []) (hK : ∀ a w, K a w → a.defers = []) (h : wpOp P ops Q i K a w) : a.defers = [] := by
  unfold wpOp at h
  split at h
  · exact hK _ _ h
  · split at h
    · rcases h with h | ⟨_, a0, w0, h0⟩
      · exact oper_df hQ hK h
      · have := (hQ _ _ _ h0).1; cases this
    · have := hK _ _ h; rwa [put_defers] at this
theorem wpOps_df {ops : Array Oper} {Q : Exit → Act → World → Prop} (hQ : ∀ e a w, Q e a w → e = .normal ∧ a.defers = []) : ∀ (l : List Nat) {a : Act} {w : World}, wpOps P ops Q l a w → a.defers = [] := by
  intro l
  induction l with
  | nil => intro a w h; exact (hQ _ _ _ h).2
  | cons i l ih => intro a w h; rw [wpOps_cons] at h; exact wpOp_df hQ (fun a w h => ih h) h
theorem wpAny_df {md : Region.Mode} {ops : Array Oper} {Q : Exit → Act → World → Prop} (hQ : ∀ e a w, Q e a w → e = .normal ∧ a.defers = []) : ∀ (fuel : Nat) {listed : Array Bool} {a : Act} {w : World}, wpAny P md ops Q fuel listed a w → a.defers = [] := by
  intro fuel
  induction fuel with
  | zero => intro listed a w h; exact (hQ _ _ _ h.2).2
  | succ fuel ih =>
    intro listed a w h
    cases hr : Region.ready md ops listed with
    | nil => exact (hQ _ _ _ (h.1 hr)).2
    | cons i r => exact wpOp_df hQ (fun a w h => ih h) (h.2 i (by rw [hr]; simp))
theorem oper_in {ro : Option Nat} {ds : List Deferred} {o : Oper} (hn : nd o = true) {a : Act} {w : World} {K K' : Act → World → Prop} {Q Q' : Exit → Act → World → Prop} (hQ : ∀ e a w, Q e a w → e = .normal ∧ a.defers = []) (hKd : ∀ a w, K a w → a.defers = [])
    (hK : ∀ a w, K a w → K' (withD ds a) w) (h : o.wp P a w K Q) : o.wpIn (FR ro) 0 P (withD ds a) w K' Q' := by
  have had := oper_df hQ hKd h
  refine ⟨fun f _ => FR_fn ro f, ?_⟩
  unfold Oper.wp at h
  rw [FR_round, nd_sem hn, withD_eval]
  generalize hr : (execOp a.eval o).run P w = r at h ⊢
  have hdep : ∀ {p : Prop}, p → ((FR ro).depth.isSome = true → 1 ≤ 0) ∧ p := fun hp => ⟨fun h => (by rw [FR_depth] at h; cases h), hp⟩
  cases r with
  | ok n w' =>
    cases n <;> simp only [Oper.upon] at h <;> simp only [Oper.uponIn]
    case value v => rw [withD_put]; exact hK _ _ h
    case skip => rw [withD_put]; exact hK _ _ h
    case defer d => have := hKd _ _ h; rw [put_defers] at this; cases this
    case enter f args =>
      refine hdep (FR_calls (h.mono fun e w'' he => ?_))
      cases e with
      | returned v => show K' ((withD ds a).put o.dst v) w''; rw [withD_put]; exact hK _ _ he
      | panicked c => have := (hQ _ _ _ he).1; cases this
      | outgrown => obtain ⟨a0, w0, h0⟩ := he; have := (hQ _ _ _ h0).1; cases this
    case row row args =>
      refine hdep (FR_rows (h.mono fun v w'' he => ?_))
      rw [withD_put]; exact hK _ _ he
  | halt x w' =>
    cases x <;> simp only [Oper.upon] at h
    case panic v => have := (hQ _ _ _ h).1; cases this
theorem wpOp_in {ro : Option Nat} {ds : List Deferred} {ops : Array Oper} (hn : ops.all nd = true) {i : Nat} {a : Act} {w : World} {K K' : Act → World → Prop} {Q Q' : Exit → Act → World → Prop} (hQ : ∀ e a w, Q e a w → e = .normal ∧ a.defers = []) (hKd : ∀ a w, K a w → a.defers = [])
    (hK : ∀ a w, K a w → K' (withD ds a) w) (h : wpOp P ops Q i K a w) : wpOpIn (FR ro) 0 P ops Q' i K' (withD ds a) w := by
  unfold wpOp at h
  unfold wpOpIn
  split at h
  · rename_i ho; simp only [ho]; exact hK _ _ h
  · rename_i o ho
    simp only [ho]
    have hno : nd o = true := by
      obtain ⟨hi, rfl⟩ := Array.getElem?_eq_some_iff.1 ho
      exact Array.all_eq_true.1 hn i hi
    split at h
    · rename_i hw
      have : Region.wanted o (yielded ops (withD ds a).tmps) = true := hw
      rw [if_pos this]
      rcases h with h | ⟨_, a0, w0, h0⟩
      · exact oper_in hno hQ hKd hK h
      · have := (hQ _ _ _ h0).1; cases this
    · rename_i hw
      have : ¬ Region.wanted o (yielded ops (withD ds a).tmps) = true := hw
      rw [if_neg this]
      exact ⟨fun f _ => FR_fn ro f, by rw [withD_put]; exact hK _ _ h⟩
theorem wpOps_in {ro : Option Nat} {ds : List Deferred} {ops : Array Oper} (hn : ops.all nd = true) {Q Q' : Exit → Act → World → Prop} (hQ : ∀ e a w, Q e a w → e = .normal ∧ a.defers = []) (hQQ : ∀ a w, Q .normal a w → Q' .normal (withD ds a) w) :
    ∀ (l : List Nat) {a : Act} {w : World}, wpOps P ops Q l a w → wpOpsIn (FR ro) 0 P ops Q' l (withD ds a) w := by
  intro l
  induction l with
  | nil => intro a w h; exact hQQ _ _ h
  | cons i l ih =>
    intro a w h
    rw [wpOps_cons] at h
    rw [wpOpsIn_cons]
    exact wpOp_in hn hQ (fun a w h => wpOps_df hQ l h) (fun a w h => ih h) h
theorem wpAny_in {ro : Option Nat} {ds : List Deferred} {ops : Array Oper} (hn : ops.all nd = true) {Q Q' : Exit → Act → World → Prop} (hQ : ∀ e a w, Q e a w → e = .normal ∧ a.defers = []) (hQQ : ∀ a w, Q .normal a w → Q' .normal (withD ds a) w) :
    ∀ (fuel : Nat) {listed : Array Bool} {a : Act} {w : World}, wpAny P .any ops Q fuel listed a w → wpAnyIn (FR ro) 0 P .any ops Q' fuel listed (withD ds a) w := by
  intro fuel
  induction fuel with
  | zero => intro listed a w h; exact ⟨h.1, hQQ _ _ h.2⟩
  | succ fuel ih =>
    intro listed a w h
    exact ⟨fun hr => hQQ _ _ (h.1 hr), fun i hi => wpOp_in hn hQ (fun a w h => wpAny_df hQ fuel h) (fun a w h => ih h) (h.2 i hi)⟩
end Go.Cw
namespace Go.Cw
open Go
variable {P : Program} {N : Num} {tk fk : Nat → Option Nat} {Γ : Ctx}
def noPb : Nat → Option Nat := fun _ => none
def plainM (m : Lmap) : Bool := m.all fun x => !x.2
abbrev PR (m : Lmap) (nt : Nat) (env : Env) (h : Heap) (a : Act) (w : World) : Prop := Rel m nt h w noPb env h a w
def marks (Ds : List Nat) : List Deferred := Ds.map fun D => { target := .collected D, args := #[] }
def MOk (B : Nat) (Ds : List Nat) (h : Heap) (w : World) : Prop := Ds.Nodup ∧ ∀ D ∈ Ds, B ≤ D ∧ w.heap[D]? = some (.deferred (some [])) ∧ h D = none
theorem MOk.step {B : Nat} {Ds : List Nat} {h h' : Heap} {w w' : World} (hm : MOk B Ds h w) (hs : WStep h h' w w') : MOk B Ds h' w' := by
  refine ⟨hm.1, fun D hD => ?_⟩
  obtain ⟨h1, h2, h3⟩ := hm.2 D hD
  have hlt := (Array.getElem?_eq_some_iff.1 h2).1
  obtain ⟨h4, h5⟩ := hs.frame D hlt h3
  exact ⟨h1, by rw [h5]; exact h2, h4⟩
theorem plainM_spec {m : Lmap} (hp : plainM m = true) {i s : Nat} : m[i]? ≠ some (s, true) := by
  intro h
  have := List.mem_of_getElem? h
  simp only [plainM, List.all_eq_true] at hp
  have := hp _ this
  simp at this
theorem noPb_of {m : Lmap} (hp : plainM m = true) {nt : Nat} {h0 : Heap} {w0 : World} {pb : Nat → Option Nat} {env : Env} {h : Heap} {a : Act} {w : World} (hr : Rel m nt h0 w0 pb env h a w) : pb = noPb := by
  funext i
  cases hb : pb i with
  | none => rfl
  | some b => obtain ⟨s, h1, _⟩ := hr.pbm i b hb; exact absurd h1 (plainM_spec hp)
theorem Rel.again {m : Lmap} (hp : plainM m = true) {nt : Nat} {h0 : Heap} {w0 : World} {pb : Nat → Option Nat} {env : Env} {h : Heap} {a : Act} {w : World} (hr : Rel m nt h0 w0 pb env h a w) : PR m nt env h a w := by
  have := noPb_of hp hr
  subst this
  exact ⟨hr.elen, hr.plain, hr.prom, hr.priv, (fun i b hb => by cases hb), hr.inj, WStep.refl hr.step.sub, hr.nt, hr.df⟩
theorem PR.at {m : Lmap} {nt : Nat} {env : Env} {h h' : Heap} {a : Act} {w w' : World} (hr : PR m nt env h a w) (hs : h'.sub w') : PR m nt env h' a w' :=
  ⟨hr.elen, hr.plain, hr.prom, (fun i b hb => by cases hb), (fun i b hb => by cases hb), hr.inj, WStep.refl hs, hr.nt, hr.df⟩
def SoundP (P : Program) (N : Num) (Γ : Ctx) (m : Lmap) (nt : Nat) (ro : Option Nat) (s : St) (c : Code) : Prop :=
  ∀ (B : Nat) (Q : SE → Env → Heap → Prop) (Q' : Exit → Act → World → Prop) (Ds : List Nat) (env : Env) (h : Heap) (a : Act) (w : World), SW N Γ s Q env h → PR m nt env h a w → MOk B Ds h w → B ≤ w.heap.size →
    (∀ e env' h' a' w' Ds', Q e env' h' → PR m nt env' h' a' w' → WStep h h' w w' → MOk B Ds' h' w' → Q' (exOf e) (withD (marks Ds') a') w') → c.wpIn (FR ro) 0 P Q' (withD (marks Ds) a) w
theorem p_reg (htk : ∀ t k, tk t = some k → N.tid k = t) (hfk : ∀ f k, fk f = some k → N.fid k = f) (hΓ : Good P N Γ) {m : Lmap} {nt : Nat} (hnd : (m.map (·.1)).Nodup) (hp : plainM m = true) {id : Nat} {ops : Array Oper} (hn : ops.all nd = true) {l : List Stg}
    (hl : stages P tk fk ops nt m [] (List.range ops.size) = some l) {ro : Option Nat} : SoundP P N Γ m nt ro (.reg l) (.region id ops false) := by
  intro B Q Q' Ds env h a w hK hr hM hB hQ
  have h1 := stages_sound htk hfk hΓ hnd (Q := fun e a' w' => e = .normal ∧ a'.defers = [] ∧ ∃ env' h', Q .normal env' h' ∧ PR m nt env' h' a' w' ∧ WStep h h' w w') (h0 := h) (w0 := w) (List.range ops.size) [] l noPb env h a w (Q .normal) hl hr (by simpa only [SW] using hK)
    (fun pb env' h' a' w' hk hr' => ⟨rfl, hr'.df, env', h', hk, hr'.again hp, hr'.step⟩)
  rw [List.reverse_nil, List.nil_append] at h1
  exact wpIn_region (wpOps_in hn (fun e a w hq => ⟨hq.1, hq.2.1⟩) (fun a' w' ⟨_, _, env', h', h2, h3, h4⟩ => hQ .normal _ _ _ _ Ds h2 h3 h4 (hM.step h4)) _ h1)
theorem p_dreg (htk : ∀ t k, tk t = some k → N.tid k = t) (hfk : ∀ f k, fk f = some k → N.fid k = f) (hΓ : Good P N Γ) (hmix : P.follows .mixedOrders = true) {ops : Array Oper} {nt : Nat} {pt : PT} {m : Lmap} (hnd : (m.map (·.1)).Nodup) (hpl : plainM m = true) (hn : ops.all nd = true)
    {id : Nat} {p : DP} {d : DS} (hd : dregOk P tk fk ops nt m pt p = some d) {ro : Option Nat} : SoundP P N Γ m nt ro (.dreg d) (.region id ops true) := by
  unfold dregOk at hd
  split at hd
  · rename_i hok
    simp only [Bool.and_eq_true] at hok
    obtain ⟨⟨⟨h1, h2⟩, h3⟩, h4⟩ := hok
    intro B Q Q' Ds env h a w hK hr hM hB hQ
    refine wpIn_region_any hmix ?_
    have hr' : Rel m nt h w noPb env h a { w with drawn := w.drawn + 1 } := ⟨hr.elen, hr.plain, hr.prom, hr.priv, hr.pbm, hr.inj, ⟨hr.step.sub, hr.step.size, hr.step.os, hr.step.tape, hr.step.output, hr.step.frame⟩, hr.nt, hr.df⟩
    have hl0 : ∀ i, i < ops.size → lst (Array.replicate ops.size false) i = false := by
      intro i hi
      unfold lst
      simp [Array.getD, hi]
    have hany := dreg_sound htk hfk hΓ (a0 := fun t => a.tmps.getD t undef) h1 h2 h3 h4 hnd (h0 := h) (w0 := w) (K := Q .normal) (Q := fun e a' w' => e = .normal ∧ a'.defers = [] ∧ ∃ env' h', Q .normal env' h' ∧ PR m nt env' h' a' w' ∧ WStep h h' w w')
      (fun pb env' h' a' w' hk hr' => ⟨rfl, hr'.df, env', h', hk, hr'.again hpl, hr'.step⟩) ops.size p d [] (Array.replicate ops.size false) a { w with drawn := w.drawn + 1 } a (fun _ => undef) noPb env h [] hd ?_ hr' hK ?_
    · exact wpAny_in hn (fun e a w hq => ⟨hq.1, hq.2.1⟩) (fun a' w' ⟨_, _, env', h', h2, h3, h4⟩ => hQ .normal _ _ _ _ Ds h2 h3 h4 (hM.step h4)) _ hany
    · refine ⟨by simp, ?_, ?_, ?_, List.nodup_nil, ?_, hr.nt, hr.df, ?_, hr.nt, hr.df, hr'.step.sub, hr'.priv, by simp, by simp⟩
      · intro i hi hl; rw [hl0 i hi] at hl; cases hl
      · intro i hi hl; rw [hl0 i hi] at hl; cases hl
      · intro p1 i p2 e; cases p1 <;> cases e
      · intro t
        unfold tv
        cases hw : wrOf ops t with
        | none => rfl
        | some i =>
          have hlt' : i < ops.size := by have := List.mem_of_find?_eq_some hw; simpa using this
          simp [hl0 i hlt']
      · intro t
        unfold tv
        cases hw : wrOf ops t with
        | none => rfl
        | some i => simp [inL]
    · unfold left
      have := List.countP_le_length (p := fun i => !lst (Array.replicate ops.size false) i) (l := List.range ops.size)
      simpa using this
  · cases hd
theorem p_seq {m : Lmap} {nt : Nat} {ro : Option Nat} {s t : St} {c d : Code} (hs : SoundP P N Γ m nt ro s c) (ht : SoundP P N Γ m nt ro t d) : SoundP P N Γ m nt ro (.seq s t) (.seq c d) := by
  intro B Q Q' Ds env h a w hK hr hM hB hQ
  simp only [SW] at hK
  refine wpIn_seq (hs B _ _ Ds env h a w hK hr hM hB ?_)
  intro e env' h' a' w' Ds' hq hr' hst hM'
  cases e with
  | normal => exact ht B Q Q' Ds' env' h' a' w' hq hr' hM' (Nat.le_trans hB hst.size) fun e env2 h2 a2 w2 Ds2 hq2 hr2 hst2 hM2 => hQ e env2 h2 a2 w2 Ds2 hq2 hr2 (hst.trans hst2) hM2
  | exit id => exact hQ (.exit id) env' h' a' w' Ds' hq hr' hst hM'
  | ret => exact hQ .ret env' h' a' w' Ds' hq hr' hst hM'
theorem condEx_eval {m : Lmap} {nt : Nat} {x : Operand} {e : Ex} (hx : condEx m x = some e) {env : Env} {h0 h h2 : Heap} {a : Act} {w0 w : World} {pb : Nat → Option Nat} {b : Bool} (hr : Rel m nt h0 w0 pb env h a w) (hb : ev N env h2 e = some (.v (.bool b))) : a.eval x = .bool b := by
  unfold condEx at hx
  split at hx
  · rename_i t'
    split at hx <;> cases hx
    rename_i i hi
    obtain ⟨j, rfl, hj⟩ := idxOf_spec m 0 _ _ hi
    simp only [ev, Option.map_eq_some_iff] at hb
    obtain ⟨v, h3, h4⟩ := hb
    cases h4
    rw [Nat.zero_add] at h3
    exact hr.plain j t' hj _ h3
  · cases hx
    simp only [ev] at hb; cases hb; rfl
  · cases hx
theorem p_cond {m : Lmap} {nt : Nat} {ro : Option Nat} {s t : St} {c d : Code} {x : Operand} {e : Ex} (hx : condEx m x = some e) (hs : SoundP P N Γ m nt ro s c) (ht : SoundP P N Γ m nt ro t d) : SoundP P N Γ m nt ro (.cond e s t) (.cond x c d) := by
  intro B Q Q' Ds env h a w hK hr hM hB hQ
  simp only [SW] at hK
  obtain ⟨b, hb, h1, h2⟩ := hK
  have hev : (withD (marks Ds) a).eval x = .bool b := by rw [withD_eval]; exact condEx_eval hx hr hb
  cases b with
  | true => exact wpIn_cond_true hev (hs B Q Q' Ds env h a w (h1 rfl) hr hM hB hQ)
  | false => exact wpIn_cond_false hev (ht B Q Q' Ds env h a w (h2 rfl) hr hM hB hQ)
theorem p_block {m : Lmap} {nt : Nat} {ro : Option Nat} {id : Nat} {s : St} {c : Code} (hs : SoundP P N Γ m nt ro s c) : SoundP P N Γ m nt ro (.block id s) (.block id c) := by
  intro B Q Q' Ds env h a w hK hr hM hB hQ
  simp only [SW] at hK
  refine wpIn_block (hs B _ _ Ds env h a w hK hr hM hB ?_)
  intro e env' h' a' w' Ds' hq hr' hst hM'
  cases e with
  | normal => exact hQ .normal env' h' a' w' Ds' hq hr' hst hM'
  | exit j =>
    simp only [exOf, Exit.inBlock]
    split
    · rename_i e; simp only [e, if_true] at hq; exact hQ .normal env' h' a' w' Ds' hq hr' hst hM'
    · rename_i e; simp only [e, if_false] at hq; exact hQ (.exit j) env' h' a' w' Ds' hq hr' hst hM'
  | ret => exact hQ .ret env' h' a' w' Ds' hq hr' hst hM'
theorem p_loop {m : Lmap} {nt : Nat} {ro : Option Nat} {s : St} {c : Code} (hs : SoundP P N Γ m nt ro s c) : SoundP P N Γ m nt ro (.loop s) (.loop c) := by
  intro B Q Q' Ds env h a w hK hr hM hB hQ
  simp only [SW] at hK
  obtain ⟨I, n, hI, hround⟩ := hK
  refine wpIn_loop_ghost (fun n a' w' => ∃ a1 Ds' env' h', a' = withD (marks Ds') a1 ∧ I n env' h' ∧ PR m nt env' h' a1 w' ∧ MOk B Ds' h' w' ∧ WStep h h' w w') n ⟨a, Ds, env, h, rfl, hI, hr, hM, WStep.refl hr.step.sub⟩ ?_
  rintro n a' w' ⟨a1, Ds1, env1, h1, rfl, hI1, hr1, hM1, hst1⟩
  refine hs B _ _ Ds1 env1 h1 a1 w' (hround n env1 h1 hI1) hr1 hM1 (Nat.le_trans hB hst1.size) ?_
  intro e env2 h2 a2 w2 Ds2 hq hr2 hst2 hM2
  cases e with
  | normal => obtain ⟨n', hlt, hI'⟩ := hq; exact ⟨n', hlt, a2, Ds2, env2, h2, rfl, hI', hr2, hM2, hst1.trans hst2⟩
  | exit id => exact hQ (.exit id) env2 h2 a2 w2 Ds2 hq hr2 (hst1.trans hst2) hM2
  | ret => exact hQ .ret env2 h2 a2 w2 Ds2 hq hr2 (hst1.trans hst2) hM2
theorem p_exit {m : Lmap} {nt : Nat} {ro : Option Nat} {id : Nat} : SoundP P N Γ m nt ro (.exit id) (.exit id) := fun _ _ _ Ds _ _ _ _ hK hr hM _ hQ => wpIn_exit (hQ (.exit id) _ _ _ _ Ds hK hr (WStep.refl hr.step.sub) hM)
theorem p_ret {m : Lmap} {nt : Nat} {ro : Option Nat} : SoundP P N Γ m nt ro .ret .ret := fun _ _ _ Ds _ _ _ _ hK hr hM _ hQ => wpIn_ret (hQ .ret _ _ _ _ Ds hK hr (WStep.refl hr.step.sub) hM)
theorem p_skip {m : Lmap} {nt : Nat} {ro : Option Nat} : SoundP P N Γ m nt ro .skip .skip := fun _ _ _ Ds _ _ _ _ hK hr hM _ hQ => wpIn_skip (hQ .normal _ _ _ _ Ds hK hr (WStep.refl hr.step.sub) hM)
end Go.Cw
namespace Go.Cw
open Go Go.RowKit
variable {P : Program} {N : Num} {tk fk : Nat → Option Nat} {Γ : Ctx}
def ItOk (P : Program) (g off : Nat) : Prop :=
  (∀ args w, (callFunc g args).run P w = .ok (.enter g args) w) ∧
  ∀ (l : Nat) (c a : Addr) (m : Nat) (es : Array MapEntry) (ck : Nat) (h : Heap) (w1 : World) (J : List Nat → Heap → Prop) (Jx : World → Prop),
    h.cell c = some (.pointer (some a)) → h.cell (a.add off) = some (.map (some m)) → (∀ e ∈ es.toList, e.born < ck) → h.sub w1 → J [] h → (∀ dn G, J dn G → G m = some (.map es ck)) →
    (∀ dn G W, ∀ e ∈ es.toList, J dn G → WStep h G w1 W → e.born ∉ dn → YieldAt Fence.wide 0 P l #[e.key] W fun en W' =>
      (en = .returned (.bool true) ∧ ∃ G', J (dn ++ [e.born]) G' ∧ WStep G G' W W') ∨ (en = .returned (.bool false) ∧ Jx W')) →
    CallsIn Fence.wide 0 P g #[.func (.yield l) #[] #[], .pointer (some c)] w1 fun en W' => (∃ v, en = .returned v) ∧ ((∃ G dn, J dn G ∧ WStep h G w1 W' ∧ ∀ e ∈ es.toList, e.born ∈ dn) ∨ Jx W')
theorem WStep.put {h G : Heap} {w W : World} (hs : WStep h G w W) {l : Nat} (hg : G l = none) (hl : w.heap.size ≤ l) (o : Obj) : WStep h G w (W.putObj l o) := by
  refine ⟨fun b o' hb => ?_, by simpa using hs.size, hs.os, hs.tape, hs.output, fun b hb hn => ?_⟩
  · have : b ≠ l := by intro e; subst e; rw [hg] at hb; cases hb
    rw [World.putObj_heap_other this]; exact hs.sub b o' hb
  · obtain ⟨h1, h2⟩ := hs.frame b hb hn
    have : b ≠ l := by omega
    exact ⟨h1, by rw [World.putObj_heap_other this]; exact h2⟩
theorem sub_put {G : Heap} {W : World} (hs : G.sub W) {l : Nat} (hg : G l = none) (o : Obj) : G.sub (W.putObj l o) := by
  intro b o' hb
  have : b ≠ l := by intro e; subst e; rw [hg] at hb; cases hb
  rw [World.putObj_heap_other this]; exact hs b o' hb
def jumpOf : SE → Option Code
  | .normal => none
  | .exit id => some (.exit id)
  | .ret => some .ret
theorem p_rfn {m : Lmap} {nt : Nat} (hnd : (m.map (·.1)).Nodup) {k off i ip t p : Nat} {sa sb : St} {ca cb : Code} (hit : ItOk P (N.fid k) off) (hi : m[i]? = some (t, false)) (hip : m[ip]? = some (p, false)) (hpn : p < nt)
    (hsa : ∀ l, SoundP P N Γ m nt (some l) sa ca) (hsb : ∀ l, SoundP P N Γ m nt (some l) sb cb) : SoundP P N Γ m nt none (.rfn k off i ip sa sb) (.rangeFunc (.tmp t) #[p] ca cb) := by
  intro B Q Q' Ds env h a w hK hr hM hB hQ
  obtain ⟨c, ad, mp, es, ck, hf, hc1, hc2, hm, hes, J, hJ0, hJ⟩ := hK
  obtain ⟨hcf, hit⟩ := hit
  have hs := hr.step.sub
  refine wpIn_rangeFunc (F := FR none) ?_
  intro fn hfn
  rw [FR_round]
  obtain ⟨rec, hrec⟩ : ∃ rec : LoopState → Option Code → Loop, rec = fun st pe => { state := st, pending := pe, fn, tmps := a.tmps, params := #[p], assign := ca, body := cb, defers := w.heap.size } := ⟨_, rfl⟩
  obtain ⟨W1, hW1⟩ : ∃ W1, (w.alloc (.deferred (some []))).alloc (.loop (rec .ready none)) = W1 := ⟨_, rfl⟩
  have hL1 : W1.heap[w.heap.size + 1]? = some (.loop (rec .ready none)) := by
    rw [← hW1]; have := World.alloc_heap_new (w.alloc (.deferred (some []))) (.loop (rec .ready none)); rwa [World.size_alloc] at this
  have hK1 : W1.heap[w.heap.size]? = some (.deferred (some [])) := by
    rw [← hW1]; exact (Below.heap_alloc _ _ _ (by simp)).trans (World.alloc_heap_new w _)
  have hsz1 : W1.heap.size = w.heap.size + 2 := by rw [← hW1]; simp
  have hst1 : WStep h h w W1 := by
    have a1 := WStep.push hs (.deferred (some []))
    refine ⟨fun b o hb => ?_, by omega, by rw [← hW1]; rfl, by rw [← hW1]; rfl, by rw [← hW1]; rfl, fun b hb hn => ⟨hn, ?_⟩⟩
    · have h2 := hs b o hb
      have hlt := (Array.getElem?_eq_some_iff.1 h2).1
      rw [← hW1, Below.heap_alloc _ _ _ (by simp; omega), Below.heap_alloc _ _ _ hlt]; exact h2
    · rw [← hW1, Below.heap_alloc _ _ _ (by simp; omega), Below.heap_alloc _ _ _ hb]
  have hhl : h (w.heap.size + 1) = none := Heap.fresh hs (by omega)
  have hhd : h w.heap.size = none := Heap.fresh hs (by omega)
  have hev : (withD (marks Ds) a).eval (.tmp t) = .func (.func (N.fid k)) #[] #[.pointer (some c)] := hr.plain i t hi _ hf
  refine ⟨w.heap.size + 1, [{ target := .collected w.heap.size, args := #[] }], W1, { target := .fn (.func (N.fid k)) #[.pointer (some c)], args := #[.func (.yield (w.heap.size + 1)) #[] #[]] }, W1, N.fid k,
    #[.func (.yield (w.heap.size + 1)) #[] #[], .pointer (some c)], W1, ?_, ?_, fun f' _ => FR_fn none f', ?_, fun h => (by rw [FR_depth] at h; cases h), ?_⟩
  · rw [← hW1, hrec]; exact run_enterLoop_outer _ _ _ _ _
  · simp only [resolve, hev]
    simp [go_sem]
  · simp [invoke, go_sem, hcf]
  · refine (hit (w.heap.size + 1) c ad mp es ck h W1 J (fun W' => ∃ y G, y ≠ SE.normal ∧ Q y env G ∧ WStep h G w W' ∧ W'.heap[w.heap.size + 1]? = some (.loop (rec .done (jumpOf y))) ∧ W'.heap[w.heap.size]? = some (.deferred (some [])) ∧ G (w.heap.size + 1) = none ∧ G w.heap.size = none)
      hc1 hc2 hes hst1.sub hJ0 (fun dn G hj => (hJ dn G hj).1) ?_).mono ?_
    · intro dn G W e he hj hstG hnb
      obtain ⟨hGl, hWl⟩ := hstG.frame (w.heap.size + 1) (by omega) hhl
      obtain ⟨hGd, hWd⟩ := hstG.frame w.heap.size (by omega) hhd
      rw [hL1] at hWl
      rw [hK1] at hWd
      have hlt : w.heap.size + 1 < W.heap.size := (Array.getElem?_eq_some_iff.1 hWl).1
      have hy := run_yield (P := P) (args := #[e.key]) hWl (by rw [hrec]; rfl)
      rw [hrec] at hy
      have hz : (#[p].zip #[e.key]) = #[(p, e.key)] := by apply Array.toList_inj.1; simp
      have hy2 : (Instr.yield (w.heap.size + 1) #[e.key]).run P W = .ok (.round (w.heap.size + 1) fn (a.tmps.setIfInBounds p e.key) ca cb) W := by rw [hy]; dsimp only; rw [hz]; simp
      refine ⟨fn, _, ca, cb, hy2, roundIn_of_wpIn (n := 0) trivial ?_⟩
      clear hy hy2
      have hpa : p < a.tmps.size := by rw [hr.nt]; exact hpn
      have hra : PR m nt (env.put ip e.key) G ({ tmps := a.tmps.setIfInBounds p e.key, defers := [] } : Act) W := by
        refine ⟨by rw [Env.len_put]; exact hr.elen, ?_, ?_, (fun i b hb => by cases hb), (fun i b hb => by cases hb), hr.inj, WStep.refl hstG.sub, by simpa using hr.nt, rfl⟩
        · intro j s hj' v hv
          by_cases e1 : ip = j
          · subst e1
            rw [hip] at hj'; cases hj'
            have hil : ip < env.length := by rw [hr.elen]; exact (List.getElem?_eq_some_iff.1 hip).1
            rw [Env.get_put_same hil] at hv; cases hv
            simp [Array.getD, hpa]
          · rw [Env.get_put_other e1] at hv
            have : p ≠ s := by intro e2; subst e2; exact e1 (uniq_slot hnd hip hj').1
            rw [← hr.plain j s hj' v hv]
            simp [Array.getD_eq_getD_getElem?, this]
        · intro j s hj' v hv
          by_cases e1 : ip = j
          · subst e1; rw [hip] at hj'; cases hj'
          · rw [Env.get_put_other e1] at hv
            have : p ≠ s := by intro e2; subst e2; exact e1 (uniq_slot hnd hip hj').1
            obtain ⟨b, hb, _⟩ := hr.prom j s hj' v hv
            cases hb
      refine hsa (w.heap.size + 1) B _ _ [] (env.put ip e.key) G _ W ((hJ dn G hj).2.2 e he hnb) hra ⟨List.nodup_nil, fun D hD => by cases hD⟩ (by omega) ?_
      rintro x env1 G1 a1 W2 Ds1 hx hr1 hst2 hM1
      cases x with
      | exit id => exact hx.elim
      | ret => exact hx.elim
      | normal =>
        obtain ⟨hG1l, hW2l⟩ := hst2.frame (w.heap.size + 1) hlt hGl
        rw [hWl] at hW2l
        have hlt2 := (Array.getElem?_eq_some_iff.1 hW2l).1
        refine ⟨_, run_beginRound hW2l (by rw [hrec]), ?_⟩
        obtain ⟨W3, hW3⟩ : ∃ W3, W2.putObj (w.heap.size + 1) (.loop { rec .ready none with state := .busy }) = W3 := ⟨_, rfl⟩
        rw [hW3]
        have hl3 : W3.heap[w.heap.size + 1]? = some (.loop { rec .ready none with state := .busy }) := by rw [← hW3]; exact World.putObj_heap_same hlt2
        have hsz3 : W3.heap.size = W2.heap.size := by rw [← hW3]; simp
        have hsub3 : G1.sub W3 := by rw [← hW3]; exact sub_put hr1.step.sub hG1l _
        have hM3 : MOk B Ds1 G1 W3 := by
          refine ⟨hM1.1, fun D hD => ?_⟩
          obtain ⟨b1, b2, b3⟩ := hM1.2 D hD
          have : D ≠ w.heap.size + 1 := by intro e1; subst e1; rw [hW2l] at b2; cases b2
          exact ⟨b1, by rw [← hW3, World.putObj_heap_other this]; exact b2, b3⟩
        refine hsb (w.heap.size + 1) B _ _ Ds1 env1 G1 a1 W3 hx (hr1.at hsub3) hM3 (by have := hst2.size; have := hstG.size; omega) ?_
        rintro y env2 G2 a2 W4 Ds2 hy hr2 hst3 hM2
        obtain ⟨hG2l, hW4l⟩ := hst3.frame (w.heap.size + 1) (by omega) hG1l
        rw [hl3] at hW4l
        have hlt4 := (Array.getElem?_eq_some_iff.1 hW4l).1
        have hend := fun jump => run_endRound (P := P) jump hW4l
        have hchain : ∀ o, (∀ b, b < W.heap.size → G b = none → b ≠ w.heap.size + 1 → G2 b = none ∧ (W4.putObj (w.heap.size + 1) o).heap[b]? = W.heap[b]?) := by
          intro o b hb hn hne
          obtain ⟨k1, k2⟩ := hst2.frame b hb hn
          have hb2 : b < W3.heap.size := by rw [hsz3]; have := hst2.size; omega
          obtain ⟨k3, k4⟩ := hst3.frame b hb2 k1
          refine ⟨k3, ?_⟩
          rw [World.putObj_heap_other hne, k4, ← hW3, World.putObj_heap_other hne, k2]
        have hsub4 : ∀ o, G2.sub (W4.putObj (w.heap.size + 1) o) := fun o => sub_put hst3.sub hG2l o
        have hsize4 : W.heap.size ≤ W4.heap.size := by have := hst2.size; have := hst3.size; omega
        have hos : W4.os = W.os ∧ W4.tape = W.tape ∧ W4.output = W.output := by
          refine ⟨hst3.os.trans ?_, hst3.tape.trans ?_, hst3.output.trans ?_⟩
          · rw [← hW3]; exact hst2.os
          · rw [← hW3]; exact hst2.tape
          · rw [← hW3]; exact hst2.output
        have hleave : y ≠ .normal → Q y env G2 → ∀ cc, jumpOf y = some cc → ∃ v w', (Instr.endRound (w.heap.size + 1) (some cc)).run P W4 = .ok v w' ∧
            ((Ending.returned v = .returned (.bool true) ∧ ∃ G', J (dn ++ [e.born]) G' ∧ WStep G G' W w') ∨ (Ending.returned v = .returned (.bool false) ∧
              ∃ y G, y ≠ SE.normal ∧ Q y env G ∧ WStep h G w w' ∧ w'.heap[w.heap.size + 1]? = some (.loop (rec .done (jumpOf y))) ∧ w'.heap[w.heap.size]? = some (.deferred (some [])) ∧ G (w.heap.size + 1) = none ∧ G w.heap.size = none)) := by
          intro hyn hq cc hcc
          refine ⟨_, _, hend (some cc), .inr ⟨rfl, y, G2, hyn, hq, ⟨hsub4 _, ?_, ?_, ?_, ?_, ?_⟩, ?_, ?_, hG2l, ?_⟩⟩
          · have := hstG.size; simp; omega
          · exact hos.1.trans (hstG.os.trans hst1.os)
          · exact hos.2.1.trans (hstG.tape.trans hst1.tape)
          · exact hos.2.2.trans (hstG.output.trans hst1.output)
          · intro b hb hn
            obtain ⟨k1, k2⟩ := hst1.frame b hb hn
            obtain ⟨k3, k4⟩ := hstG.frame b (by omega) k1
            obtain ⟨k5, k6⟩ := hchain (.loop { { rec .ready none with state := .busy } with state := if (some cc : Option Code).isNone then .ready else .done, pending := some cc }) b (by have := hstG.size; omega) k3 (by omega)
            exact ⟨k5, k6.trans (k4.trans k2)⟩
          · rw [World.putObj_heap_same hlt4, hcc, hrec]; rfl
          · rw [(hchain _ w.heap.size (by omega) hGd (by omega)).2]; exact hWd
          · exact (hchain (.loop (rec .ready none)) w.heap.size (by omega) hGd (by omega)).1
        cases y with
        | normal =>
          refine ⟨_, _, hend none, .inl ⟨rfl, G2, hy, ⟨hsub4 _, by simp; omega, hos.1, hos.2.1, hos.2.2, ?_⟩⟩⟩
          intro b hb hn
          by_cases hne : b = w.heap.size + 1
          · subst hne
            refine ⟨hG2l, ?_⟩
            rw [World.putObj_heap_same hlt4, hWl, hrec]; rfl
          · exact hchain _ b hb hn hne
        | exit id => exact hleave (by simp) hy _ rfl
        | ret => exact hleave (by simp) hy _ rfl
    · rintro en W' ⟨⟨v, rfl⟩, hfin⟩
      rcases hfin with ⟨G, dn, hj, hstG, hall⟩ | ⟨y, G, hyn, hq, hstG, hl, hd, hGl, hGd⟩
      · obtain ⟨hGl, hWl⟩ := hstG.frame (w.heap.size + 1) (by omega) hhl
        obtain ⟨hGd, hWd⟩ := hstG.frame w.heap.size (by omega) hhd
        rw [hL1] at hWl
        rw [hK1] at hWd
        obtain ⟨oo, hend⟩ : ∃ oo, (Instr.endLoop (w.heap.size + 1)).run P W' = .ok none (W'.putObj (w.heap.size + 1) oo) := ⟨_, by rw [run_endLoop hWl (by rw [hrec]; simp)]; subst hrec; rfl⟩
        refine ⟨_, _, hend, ?_⟩
        have hst := (hst1.trans hstG).put hGl (by omega) oo
        refine hQ .normal env G a _ (w.heap.size :: Ds) ((hJ dn G hj).2.1 hall) (hr.at hst.sub) hst ?_
        have hM' := hM.step hst
        refine ⟨List.nodup_cons.2 ⟨fun hD => ?_, hM.1⟩, fun D hD => ?_⟩
        · have := (Array.getElem?_eq_some_iff.1 (hM.2 _ hD).2.1).1; omega
        · simp only [List.mem_cons] at hD
          rcases hD with rfl | hD
          · exact ⟨hB, by rw [World.putObj_heap_other (by omega)]; exact hWd, hGd⟩
          · exact hM'.2 D hD
      · obtain ⟨oo, hend⟩ : ∃ oo, (Instr.endLoop (w.heap.size + 1)).run P W' = .ok (jumpOf y) (W'.putObj (w.heap.size + 1) oo) := ⟨_, by rw [run_endLoop hl (by rw [hrec]; simp)]; subst hrec; rfl⟩
        have hst := hstG.put hGl (by omega) oo
        have hM' := hM.step hst
        have hMk : MOk B (w.heap.size :: Ds) G (W'.putObj (w.heap.size + 1) oo) := by
          refine ⟨List.nodup_cons.2 ⟨fun hD => ?_, hM.1⟩, fun D hD => ?_⟩
          · have := (Array.getElem?_eq_some_iff.1 (hM.2 _ hD).2.1).1; omega
          · simp only [List.mem_cons] at hD
            rcases hD with rfl | hD
            · exact ⟨hB, by rw [World.putObj_heap_other (by omega)]; exact hd, hGd⟩
            · exact hM'.2 D hD
        have hres := hQ y env G a _ (w.heap.size :: Ds) hq (hr.at hst.sub) hst hMk
        refine ⟨_, _, hend, ?_⟩
        cases y with
        | normal => exact absurd rfl hyn
        | exit id => exact wpIn_exit hres
        | ret => exact wpIn_ret hres
end Go.Cw
namespace Go.Cw
open Go Go.RowKit
variable {P : Program} {N : Num} {tk fk : Nat → Option Nat} {Γ : Ctx}
def compP (P : Program) (tk fk : Nat → Option Nat) (nt : Nat) (m : Lmap) (k off : Nat) : Bool → Code → Option St
  | _, .skip => some .skip
  | _, .ret => some .ret
  | _, .exit id => some (.exit id)
  | _, .region _ ops false => if ops.all nd then (stages P tk fk ops nt m [] (List.range ops.size)).map .reg else none
  | _, .region _ ops true => if ops.all nd then (dregOk P tk fk ops nt m (prOf ops) (planOf ops.toList (ops.size + 1) [])).map .dreg else none
  | top, .seq a b =>
    match compP P tk fk nt m k off top a, compP P tk fk nt m k off top b with
    | some s, some t => some (.seq s t)
    | _, _ => none
  | top, .cond x a b =>
    match condEx m x, compP P tk fk nt m k off top a, compP P tk fk nt m k off top b with
    | some e, some s, some t => some (.cond e s t)
    | _, _, _ => none
  | top, .block id a => (compP P tk fk nt m k off top a).map (.block id)
  | top, .loop a => (compP P tk fk nt m k off top a).map .loop
  | top, .rangeFunc (.tmp t) ps a b =>
    match top, ps.toList with
    | true, [p] =>
      match idxOf t 0 m, idxOf p 0 m, compP P tk fk nt m k off false a, compP P tk fk nt m k off false b with
      | some (i, false), some (ip, false), some s, some s' => if p < nt then some (.rfn k off i ip s s') else none
      | _, _, _, _ => none
    | _, _ => none
  | _, _ => none
theorem compP_sound (htk : ∀ t k, tk t = some k → N.tid k = t) (hfk : ∀ f k, fk f = some k → N.fid k = f) (hΓ : Good P N Γ) (hmix : P.follows .mixedOrders = true) {nt : Nat} {m : Lmap} (hnd : (m.map (·.1)).Nodup) (hp : plainM m = true) {k off : Nat} (hit : ItOk P (N.fid k) off) :
    ∀ (c : Code) (top : Bool) (s : St), compP P tk fk nt m k off top c = some s → ∀ ro, (top = true → ro = none) → SoundP P N Γ m nt ro s c := by
  intro c
  induction c with
  | skip => intro top s h ro _; simp only [compP] at h; cases h; exact p_skip
  | ret => intro top s h ro _; simp only [compP] at h; cases h; exact p_ret
  | exit id => intro top s h ro _; simp only [compP] at h; cases h; exact p_exit
  | region id ops draw =>
    intro top s h ro _
    cases draw with
    | false =>
      simp only [compP] at h
      split at h
      · rename_i hn
        obtain ⟨l, h1, rfl⟩ := Option.map_eq_some_iff.1 h
        exact p_reg htk hfk hΓ hnd hp hn h1
      · cases h
    | true =>
      simp only [compP] at h
      split at h
      · rename_i hn
        obtain ⟨d, h1, rfl⟩ := Option.map_eq_some_iff.1 h
        exact p_dreg htk hfk hΓ hmix hnd hp hn h1
      · cases h
  | seq a b iha ihb =>
    intro top s h ro ht
    simp only [compP] at h
    split at h <;> cases h
    rename_i s t h1 h2
    exact p_seq (iha _ _ h1 ro ht) (ihb _ _ h2 ro ht)
  | cond x a b iha ihb =>
    intro top s h ro ht
    simp only [compP] at h
    split at h <;> cases h
    rename_i e s t h0 h1 h2
    exact p_cond h0 (iha _ _ h1 ro ht) (ihb _ _ h2 ro ht)
  | block id a ih =>
    intro top s h ro ht
    simp only [compP, Option.map_eq_some_iff] at h
    obtain ⟨t, h, rfl⟩ := h
    exact p_block (ih _ _ h ro ht)
  | loop a ih =>
    intro top s h ro ht
    simp only [compP, Option.map_eq_some_iff] at h
    obtain ⟨t, h, rfl⟩ := h
    exact p_loop (ih _ _ h ro ht)
  | rangeFunc f ps a b iha ihb =>
    intro top s h ro ht
    cases f with
    | tmp t =>
      simp only [compP] at h
      split at h
      · rename_i p hps
        split at h
        · rename_i i ip sa sb h1 h2 h3 h4
          split at h <;> cases h
          rename_i hlt
          obtain ⟨i', rfl, hi⟩ := idxOf_spec m 0 _ _ h1
          obtain ⟨ip', rfl, hip⟩ := idxOf_spec m 0 _ _ h2
          have : ps = #[p] := by apply Array.toList_inj.1; simpa using hps
          subst this
          have := ht rfl
          subst this
          rw [Nat.zero_add, Nat.zero_add]
          exact p_rfn hnd hit hi hip hlt (fun l => iha _ _ h3 _ (by simp)) (fun l => ihb _ _ h4 _ (by simp))
        · cases h
      · cases h
    | _ => simp [compP] at h
  | _ => intro top s h; simp [compP] at h
def resExP (P : Program) (m : Lmap) : List ResultVar → Option (List Ex)
  | [] => some []
  | .tmp t :: r =>
    match idxOf t 0 m, resExP P m r with
    | some (i, false), some l => some (.var i :: l)
    | _, _ => none
  | .cell t ty :: r =>
    match idxOf t 0 m, aggOf P ty, sizeOf' P ty, resExP P m r with
    | some (i, false), some false, some 1, some l => some (.o1 .ld (.var i) :: l)
    | some (i, false), some true, some n, some l => some (.o1 (.ldn n) (.var i) :: l)
    | _, _, _, _ => none
theorem o1_ld_at {N : Num} {env : Env} {h : Heap} {u : Value} {v : Value} (h1 : o1V N env h .ld (.v u) = some (.v v)) : ∃ a, u = .pointer (some a) ∧ h.cell a = some v := by
  cases u with
  | pointer p =>
    cases p with
    | none => simp [o1V] at h1
    | some a =>
      simp only [o1V, Option.map_eq_some_iff] at h1
      obtain ⟨x, h2, h3⟩ := h1
      cases h3; exact ⟨a, rfl, h2⟩
  | _ => simp [o1V] at h1
theorem o1_ldn_at {N : Num} {env : Env} {h : Heap} {n : Nat} {u : Value} {v : Value} (h1 : o1V N env h (.ldn n) (.v u) = some (.v v)) : ∃ a c, u = .pointer (some a) ∧ h.row a n = some c ∧ v = .agg c := by
  cases u with
  | pointer p =>
    cases p with
    | none => simp [o1V] at h1
    | some a =>
      simp only [o1V, Option.map_eq_some_iff] at h1
      obtain ⟨x, h2, h3⟩ := h1
      cases h3; exact ⟨a, x, rfl, h2, rfl⟩
  | _ => simp [o1V] at h1
theorem resP_sound {m : Lmap} {nt : Nat} {env : Env} {h : Heap} {a : Act} {w : World} (hr : PR m nt env h a w) {w' : World} (hs : h.sub w')
    {f : ResultVar → Sem Value} (hf1 : ∀ t, f (.tmp t) = pure (a.tmps.getD t undef)) (hf2 : ∀ x t, f (.cell x t) = (do loadVar t (← asAddr (a.tmps.getD x undef)))) :
    ∀ (rs : List ResultVar) (es : List Ex) (vs : List Value), resExP P m rs = some es → evVals N env h es = some vs → (rs.mapM f).run P w' = .ok vs w' := by
  intro rs
  induction rs with
  | nil => intro es vs h1 h2; simp only [resExP] at h1; cases h1; simp only [evVals] at h2; cases h2; rfl
  | cons r rs ih =>
    intro es vs h1 h2
    cases r with
    | tmp t =>
      simp only [resExP] at h1
      split at h1 <;> cases h1
      rename_i i l hi hl
      simp only [evVals] at h2
      split at h2 <;> cases h2
      rename_i v vs' hv hvs
      obtain ⟨j, rfl, hj⟩ := idxOf_spec m 0 _ _ hi
      simp only [ev, Option.map_eq_some_iff, Nat.zero_add] at hv
      obtain ⟨v', h3, h4⟩ := hv
      cases h4
      simp only [List.mapM_cons, Sem.run_bind, hf1, Sem.run_pure, Result.andThen_ok, hr.plain j t hj _ h3, ih l vs' hl hvs]
    | cell x t =>
      simp only [resExP] at h1
      split at h1
      · cases h1
        rename_i i l hi ha hsz hl
        simp only [evVals] at h2
        split at h2 <;> cases h2
        rename_i v vs' hv hvs
        obtain ⟨j, rfl, hj⟩ := idxOf_spec m 0 _ _ hi
        obtain ⟨u, h3, h4⟩ := ev_o1 hv
        simp only [ev, Option.map_eq_some_iff, Nat.zero_add] at h3
        obtain ⟨v', h5, rfl⟩ := h3
        obtain ⟨ad, rfl, h6⟩ := o1_ld_at h4
        have hh : (asAddr (a.tmps.getD x undef)).run P w' = .ok ad w' := by rw [hr.plain j x hj _ h5]; rfl
        simp only [List.mapM_cons, hf2, Sem.run_bind, hh, Sem.run_pure, Result.andThen_ok, load_one ha (Heap.sub_cell hs h6), ih l vs' hl hvs]
      · cases h1
        rename_i i n l hi ha hsz hl
        simp only [evVals] at h2
        split at h2 <;> cases h2
        rename_i v vs' hv hvs
        obtain ⟨j, rfl, hj⟩ := idxOf_spec m 0 _ _ hi
        obtain ⟨u, h3, h4⟩ := ev_o1 hv
        simp only [ev, Option.map_eq_some_iff, Nat.zero_add] at h3
        obtain ⟨v', h5, rfl⟩ := h3
        obtain ⟨ad, c, rfl, h6, rfl⟩ := o1_ldn_at h4
        have hh : (asAddr (a.tmps.getD x undef)).run P w' = .ok ad w' := by rw [hr.plain j x hj _ h5]; rfl
        simp only [List.mapM_cons, hf2, Sem.run_bind, hh, Sem.run_pure, Result.andThen_ok, load_many ha hsz (Heap.sub_row hs h6), ih l vs' hl hvs]
      · cases h1
theorem leaves_marks {fn : Func} {tmps : Array Value} {R : Ending → World → Prop} {B : Nat} {h : Heap} : ∀ (Ds : List Nat) (w : World), MOk B Ds h w → h.sub w → (∀ w', h.sub w' → w'.heap.size = w.heap.size → w'.os = w.os → w'.tape = w.tape → w'.output = w.output → (∀ b, b < B → w'.heap[b]? = w.heap[b]?) → ∃ v, (results fn tmps).run P w' = .ok v w' ∧ R (.returned v) w') →
    LeavesInM Fence.wide 0 P fn tmps R (marks Ds) .returning w := by
  intro Ds
  induction Ds with
  | nil => intro w _ hs hR; exact hR w hs rfl rfl rfl rfl (fun _ _ => rfl)
  | cons D Ds ih =>
    intro w hM hs hR
    obtain ⟨h1, h2, h3⟩ := hM.2 D (by simp)
    have hnd := List.nodup_cons.1 hM.1
    refine ⟨by simp, .inl ⟨D, _, rfl, run_takeDeferred h2, ?_⟩⟩
    refine ih _ ⟨hnd.2, fun D' hD' => ?_⟩ (sub_put hs h3 _) fun w' k1 k2 k3 k4 k5 k6 => hR w' k1 (by simpa using k2) k3 k4 k5 fun b hb => ?_
    · obtain ⟨g1, g2, g3⟩ := hM.2 D' (by simp [hD'])
      have : D' ≠ D := by intro e; subst e; exact hnd.1 hD'
      exact ⟨g1, by rw [World.putObj_heap_other this]; exact g2, g3⟩
    · rw [k6 b hb, World.putObj_heap_other (by omega)]
theorem funP_sound {f : FuncId} {fn : Func} {c : Code} (hf : P.funcs[f]? = some fn) (hname : (fn.name == "runtime.NumGoroutine") = false) (hb : fn.body = some c) {m : Lmap} (hp : plainM m = true) {F : SFun} (hc : SoundP P N Γ m fn.ntmps none F.body c)
    (hres : resExP P m fn.results.toList = some F.res) (hnv : F.nv = m.length) (hm0 : ∀ i, i < F.np → m[i]? = some (i, false)) (hnp : F.np ≤ fn.ntmps) (hle : F.np ≤ F.nv) {args : List Value} {h : Heap} {K : Value → Heap → Prop} (hK : SF N Γ F args h K) :
    FC P f args h K := by
  obtain ⟨hlen, hK⟩ := hK
  refine .inl ⟨⟨fn, hf, hname, by rw [hb]; rfl⟩, fun w hs => ?_⟩
  refine (callsIn_wide (n := 0)).1 (callsIn_of_wp_marks (F := Fence.wide) hf hb trivial ?_)
  have hrel : PR m fn.ntmps (env0 F.nv args) h { tmps := args.toArray ++ Array.replicate (fn.ntmps - args.toArray.size) undef, defers := [] } w := by
    refine ⟨?_, ?_, ?_, (by intro i b hb; cases hb), (by intro i b hb; cases hb), (by intro i j b hb; cases hb), WStep.refl hs, ?_, rfl⟩
    · simp [env0, hlen]; omega
    · intro i slot hm v hv
      by_cases hi : i < args.length
      · have := hm0 i (by omega)
        rw [this] at hm; cases hm
        simp only [Env.get, env0, List.getElem?_append_left (show i < (args.map some).length by simpa using hi), List.getElem?_map] at hv
        have hg : args[i]? = some v := by
          cases hh : args[i]? with
          | none => rw [hh] at hv; simp at hv
          | some x => rw [hh] at hv; simp at hv; rw [hv]
        rw [Array.getD_eq_getD_getElem?, Array.getElem?_append_left (by simpa using hi)]
        simp [hg]
      · simp only [Env.get, env0, List.getElem?_append_right (show (args.map some).length ≤ i by simpa using hi), List.getElem?_replicate] at hv
        split at hv <;> simp at hv
    · intro i slot hm v hv
      exact absurd hm (plainM_spec hp)
    · simp; omega
  refine hc w.heap.size _ _ [] (env0 F.nv args) h _ w hK hrel ⟨List.nodup_nil, fun D hD => by cases hD⟩ (Nat.le_refl _) ?_
  intro e env h' a w' Ds hq hr hst hM
  have fin : (∃ vs, evVals N env h' F.res = some vs ∧ K (tup vs) h') → LeavesInM Fence.wide 0 P fn a.tmps (fun e w'' => ∃ v h', e = Ending.returned v ∧ K v h' ∧ WStep h h' w w'') (marks Ds) .returning w' := by
    rintro ⟨vs, h1, h2⟩
    refine leaves_marks Ds w' hM hst.sub fun w'' k1 k2 k3 k4 k5 k6 => ⟨tup vs, ?_, tup vs, h', rfl, h2, ⟨k1, by have := hst.size; omega, k3.trans hst.os, k4.trans hst.tape, k5.trans hst.output, fun b hb hn => ?_⟩⟩
    · unfold results
      rw [Array.mapM_eq_mapM_toList]
      simp only [Sem.run_bind, Sem.run_map]
      rw [resP_sound (N := N) (P := P) hr k1 (fun _ => rfl) (fun _ _ => rfl) fn.results.toList F.res vs hres h1]
      simp only [Result.andThen_ok, Sem.run_pure]
      match vs with
      | [] => rfl
      | [v] => rfl
      | v :: u :: r => simp [tup]
    · obtain ⟨g1, g2⟩ := hst.frame b hb hn
      exact ⟨g1, (k6 b hb).trans g2⟩
  cases e with
  | normal => exact fin hq
  | exit id => exact hq.elim
  | ret => exact fin hq
def compFP (P : Program) (tk fk : Nat → Option Nat) (k off np : Nat) (m : Lmap) (fn : Func) : Option SFun :=
  match fn.body with
  | some c =>
    match compP P tk fk fn.ntmps m k off true c, resExP P m fn.results.toList with
    | some s, some r =>
      if nodupN (m.map (·.1)) && plainM m && (List.range np).all (fun i => m[i]? == some (i, false)) && decide (np ≤ fn.ntmps) && decide (np ≤ m.length) && !(fn.name == "runtime.NumGoroutine") then some ⟨np, m.length, s, r⟩ else none
    | _, _ => none
  | none => none
theorem compFP_sound (htk : ∀ t k, tk t = some k → N.tid k = t) (hfk : ∀ f k, fk f = some k → N.fid k = f) (hΓ : Good P N Γ) (hmix : P.follows .mixedOrders = true) {f : FuncId} {fn : Func} (hf : P.funcs[f]? = some fn) {k off : Nat} (hit : ItOk P (N.fid k) off)
    {m : Lmap} {np : Nat} {F : SFun} (hF : compFP P tk fk k off np m fn = some F) {args : List Value} {h : Heap} {K : Value → Heap → Prop} (hK : SF N Γ F args h K) : FC P f args h K := by
  unfold compFP at hF
  split at hF
  · rename_i c hc
    split at hF
    · rename_i s r hs hr
      split at hF <;> cases hF
      rename_i hok
      simp only [Bool.and_eq_true, decide_eq_true_eq, List.all_eq_true, List.mem_range, beq_iff_eq, Bool.not_eq_true'] at hok
      obtain ⟨⟨⟨⟨⟨h1, hp⟩, h2⟩, h3⟩, h4⟩, h5⟩ := hok
      exact funP_sound hf h5 hc hp (compP_sound htk hfk hΓ hmix (nodupN_iff _ h1) hp hit c true s hs none (fun _ => rfl)) hr rfl h2 h3 h4 hK
    · cases hF
  · cases hF
end Go.Cw
namespace Go.Cw
open Go Go.RowKit
variable {P : Program} {N : Num} {tk fk : Nat → Option Nat} {Γ : Ctx}
def m71 : Lmap := [(0, false), (1, false), (3, false), (8, false), (9, false), (10, false), (11, false), (15, false), (16, false)]
def itA (off : Nat) : List Stg := [⟨[], some (.ef [] .rng [(.o1 .ld (.o1 (.fadr off) (.o1 .nilck (.o1 .ld (.var 1)))))] (some 3))⟩]
def itB : List Stg := [⟨[], some (.ef [] .nxt [(.var 3)] (some 4))⟩, ⟨[⟨[], 5, (.o1 (.ext 0) (.var 4))⟩], none⟩]
def itC : List Stg := [⟨[], some (.ef [] .ent [(.var 3)] (some 6))⟩, ⟨[⟨[], 2, (.o1 (.ext 0) (.var 6))⟩], none⟩]
def isMv (o : Oper) (t d : Nat) : Bool := o.dst == some d && o.guard.isNone && (match o.op with | .move (.tmp x) => x == t | _ => false)
def isYc (o : Oper) : Bool := o.dst == some 15 && o.guard.isNone && (match o.op with | .call { callee := .value (.tmp x), args := as, argTypes := _ } => x == 13 && (match as.toList with | [.tmp y] => y == 14 | _ => false) | _ => false)
def isNt (o : Oper) : Bool := o.dst == some 16 && o.guard.isNone && (match o.op with | .unOp .not _ (.tmp x) => x == 15 | _ => false)
def isTmp (x : Operand) (t : Nat) : Bool := match x with | .tmp y => y == t | _ => false
def itRead (P : Program) (tk fk : Nat → Option Nat) (fn : Func) : Option (List Stg × List Stg × List Stg) :=
  match fn.body with
  | some (.seq (.region _ A false) (.block b (.loop (.seq (.region _ B false) (.seq (.cond x .skip (.exit b')) (.block _ (.seq (.region _ C false) (.seq (.region _ D false) (.cond y .ret .skip))))))))) =>
    match D.toList with
    | [o0, o1, o2, o3] =>
      if b == b' && A.all nd && B.all nd && C.all nd && isMv o0 0 13 && isMv o1 3 14 && isYc o2 && isNt o3 && isTmp x 10 && isTmp y 16 && fn.ntmps == 17 && fn.results.isEmpty && !(fn.name == "runtime.NumGoroutine") then
        match stages P tk fk A 17 m71 [] (List.range A.size), stages P tk fk B 17 m71 [] (List.range B.size), stages P tk fk C 17 m71 [] (List.range C.size) with
        | some a, some b, some c => some (a, b, c)
        | _, _, _ => none
      else none
    | _ => none
  | _ => none
theorem ops_step {F : Fence} {ops : Array Oper} {Q : Exit → Act → World → Prop} {i : Nat} {rest : List Nat} {o : Oper} {a : Act} {w : World} (ho : ops[i]? = some o) (hg : o.guard = none) (h : o.wpIn F 0 P a w (wpOpsIn F 0 P ops Q rest) Q) : wpOpsIn F 0 P ops Q (i :: rest) a w := by
  simp only [wpOpsIn, ho]
  have : Region.wanted o (yielded ops a.tmps) = true := by simp [Region.wanted, hg]
  rw [if_pos this]; exact h
theorem isMv_spec {o : Oper} {t d : Nat} (h : isMv o t d = true) : o.dst = some d ∧ o.guard = none ∧ o.op = .move (.tmp t) := by
  unfold isMv at h
  simp only [Bool.and_eq_true, beq_iff_eq, Option.isNone_iff_eq_none] at h
  obtain ⟨⟨h1, h2⟩, h3⟩ := h
  split at h3 <;> first | (rename_i x hx; simp at h3; subst h3; exact ⟨h1, h2, hx⟩) | cases h3
theorem isNt_spec {o : Oper} (h : isNt o = true) : o.dst = some 16 ∧ o.guard = none ∧ ∃ t, o.op = .unOp .not t (.tmp 15) := by
  unfold isNt at h
  simp only [Bool.and_eq_true, beq_iff_eq, Option.isNone_iff_eq_none] at h
  obtain ⟨⟨h1, h2⟩, h3⟩ := h
  split at h3 <;> first | (rename_i x y hx; simp at h3; subst h3; exact ⟨h1, h2, _, hx⟩) | cases h3
theorem isYc_spec {o : Oper} (h : isYc o = true) : o.dst = some 15 ∧ o.guard = none ∧ ∃ ts, o.op = .call { callee := .value (.tmp 13), args := #[.tmp 14], argTypes := ts } := by
  unfold isYc at h
  simp only [Bool.and_eq_true, beq_iff_eq, Option.isNone_iff_eq_none] at h
  obtain ⟨⟨h1, h2⟩, h3⟩ := h
  split at h3
  · rename_i x as ts hx
    simp only [Bool.and_eq_true, beq_iff_eq] at h3
    obtain ⟨h4, h5⟩ := h3
    subst h4
    split at h5
    · rename_i y hy
      simp at h5; subst h5
      have : as = #[.tmp 14] := by apply Array.toList_inj.1; simpa using hy
      subst this
      exact ⟨h1, h2, _, hx⟩
    · cases h5
  · cases h3
theorem isTmp_spec {x : Operand} {t : Nat} (h : isTmp x t = true) : x = .tmp t := by
  unfold isTmp at h
  split at h
  · simp at h; subst h; rfl
  · cases h
theorem op_move {F : Fence} {o : Oper} {t : Nat} (ho : o.op = .move (.tmp t)) {a : Act} {w : World} {K : Act → World → Prop} {Q : Exit → Act → World → Prop} (hF : ∀ f, F.fn f) (hro : F.round = none) (h : K (a.put o.dst (a.tmps.getD t undef)) w) : o.wpIn F 0 P a w K Q := by
  refine ⟨fun f _ => hF f, ?_⟩
  rw [hro, Oper.semAt_none, execOp_of ho]
  rw [Array.getD_eq_getD_getElem?] at h
  simp [execOp, Act.eval, Oper.uponIn]
  exact h
theorem op_not {F : Fence} {o : Oper} {t : Nat} {ty : TypeId} {b : Bool} (ho : o.op = .unOp .not ty (.tmp t)) {a : Act} (hb : a.tmps.getD t undef = .bool b) {w : World} {K : Act → World → Prop} {Q : Exit → Act → World → Prop} (hF : ∀ f, F.fn f) (hro : F.round = none) (h : K (a.put o.dst (.bool (!b))) w) : o.wpIn F 0 P a w K Q := by
  refine ⟨fun f _ => hF f, ?_⟩
  rw [hro, Oper.semAt_none, execOp_of ho]
  rw [Array.getD_eq_getD_getElem?] at hb
  simp [execOp, Act.eval, Oper.uponIn, hb, go_sem]
  exact h
theorem getD_put (a : Act) (d t : Nat) (v : Value) (hd : d < a.tmps.size) : (a.put (some d) v).tmps.getD t undef = if d = t then v else a.tmps.getD t undef := by
  by_cases e : d = t
  · subst e; simp [Act.put, Array.getD, hd]
  · simp [Act.put, Array.getD_eq_getD_getElem?, e]
theorem it_call {ops : Array Oper} {o0 o1 o2 o3 : Oper} (hD : ops.toList = [o0, o1, o2, o3]) (s0 : isMv o0 0 13 = true) (s1 : isMv o1 3 14 = true) (s2 : isYc o2 = true) (s3 : isNt o3 = true) {id l : Nat} {a : Act} {w : World} {key : Value} {Q : Exit → Act → World → Prop}
    (hsz : a.tmps.size = 17) (h0 : a.tmps.getD 0 undef = .func (.yield l) #[] #[]) (h3 : a.tmps.getD 3 undef = key)
    (hy : YieldAt Fence.wide 0 P l #[key] w fun en W' => ∃ b, en = .returned (.bool b) ∧ Q .normal ((((a.put (some 13) (.func (.yield l) #[] #[])).put (some 14) key).put (some 15) (.bool b)).put (some 16) (.bool (!b))) W') :
    (Code.region id ops false).wpIn Fence.wide 0 P Q a w := by
  have hops : ops = #[o0, o1, o2, o3] := by apply Array.toList_inj.1; simpa using hD
  subst hops
  obtain ⟨d0, g0, p0⟩ := isMv_spec s0
  obtain ⟨d1, g1, p1⟩ := isMv_spec s1
  obtain ⟨d2, g2, ts, p2⟩ := isYc_spec s2
  obtain ⟨d3, g3, ty, p3⟩ := isNt_spec s3
  refine wpIn_region ?_
  show wpOpsIn Fence.wide 0 P #[o0, o1, o2, o3] Q [0, 1, 2, 3] a w
  refine ops_step (o := o0) rfl g0 (op_move p0 (fun _ => trivial) rfl ?_)
  refine ops_step (o := o1) rfl g1 (op_move p1 (fun _ => trivial) rfl ?_)
  rw [d0, d1, h0, getD_put _ _ _ _ (by omega), if_neg (by omega), h3]
  refine ops_step (o := o2) rfl g2 ⟨fun _ _ => trivial, ?_⟩
  obtain ⟨fn, tmps, assign, body, hy1, hy2⟩ := hy
  have e13 : ((a.put (some 13) (.func (.yield l) #[] #[])).put (some 14) key).tmps.getD 13 undef = .func (.yield l) #[] #[] := by
    rw [getD_put _ _ _ _ (by simp [Act.put, hsz]), if_neg (by omega), getD_put _ _ _ _ (by omega), if_pos rfl]
  have e14 : ((a.put (some 13) (.func (.yield l) #[] #[])).put (some 14) key).tmps.getD 14 undef = key := by
    rw [getD_put _ _ _ _ (by simp [Act.put, hsz]), if_pos rfl]
  have hrun : (o2.semAt Fence.wide.round ((a.put (some 13) (.func (.yield l) #[] #[])).put (some 14) key).eval).run P w = .ok (.round l fn tmps assign body) w := by
    show (execOp _ o2).run P w = _
    rw [execOp_of p2]
    simp only [execOp]
    rw [Array.getD_eq_getD_getElem?] at e13 e14
    simp [resolve, Act.eval, e13, e14, Deferred.ofValue, invoke, hy1]
  rw [hrun, Oper.uponIn_round]
  refine ⟨fun h => (by cases h), hy2.mono ?_⟩
  rintro en W' ⟨b, rfl, hq⟩
  refine ops_step (o := o3) rfl g3 (op_not (b := b) p3 ?_ (fun _ => trivial) rfl ?_)
  · rw [d2, getD_put _ _ _ _ (by simp [Act.put, hsz]), if_pos rfl]
  · rw [d2, d3]; exact hq
theorem find_born (es : List MapEntry) {e : MapEntry} (he : e ∈ es) : ∃ e', es.find? (·.born == e.born) = some e' ∧ e' ∈ es ∧ e'.born = e.born := by
  cases hf : es.find? (·.born == e.born) with
  | none => have := List.find?_eq_none.1 hf e he; simp at this
  | some e' => exact ⟨e', rfl, List.mem_of_find?_eq_some hf, by have := List.find?_some hf; simpa using this⟩
theorem cands_none {es : Array MapEntry} {ck : Nat} {seen : Array Nat} (hes : ∀ e ∈ es.toList, e.born < ck) (h : none ∈ (cands es ck seen).toList) : ∀ e ∈ es.toList, e.born ∈ seen.toList := by
  intro e he
  apply Classical.byContradiction
  intro hn
  unfold cands at h
  simp only [Array.toList_append, List.mem_append] at h
  rcases h with h | h
  · split at h
    · rename_i hemp
      have : e ∈ ((es.filter fun e => !seen.contains e.born).filter (fun e => decide (e.born < ck))) := by
        simp only [Array.mem_filter]
        exact ⟨⟨by simpa using he, by simpa using hn⟩, by simpa using hes e he⟩
      simp only [Array.isEmpty_iff] at hemp
      rw [hemp] at this
      simp at this
    · simp at h
  · simp at h
theorem cands_some {es : Array MapEntry} {ck : Nat} {seen : Array Nat} {e : MapEntry} (h : some e ∈ (cands es ck seen).toList) : e ∈ es.toList ∧ e.born ∉ seen.toList := by
  unfold cands at h
  simp only [Array.toList_append, List.mem_append] at h
  rcases h with h | h
  · split at h <;> simp at h
  · simp only [Array.toList_map, Array.toList_append, List.map_append, List.mem_append, List.mem_map, Option.some.injEq, exists_eq_right, Array.mem_toList_iff, Array.mem_filter] at h
    rcases h with h | h
    · exact ⟨by simpa using h.1.1, by simpa using h.1.2⟩
    · exact ⟨by simpa using h.1.1, by simpa using h.1.2⟩
theorem cands_ne {es : Array MapEntry} {ck : Nat} {seen : Array Nat} : (cands es ck seen).size ≠ 0 := by
  unfold cands
  intro h0
  simp only [Array.size_append, Array.size_map] at h0
  split at h0
  · simp at h0
  · rename_i hne
    apply hne
    rw [Array.isEmpty_iff]
    apply Array.eq_empty_of_size_eq_zero
    omega
theorem withD_nil {a : Act} (h : a.defers = []) : withD (marks []) a = a := by cases a; simp only at h; subst h; rfl
theorem r_reg (htk : ∀ t k, tk t = some k → N.tid k = t) (hfk : ∀ f k, fk f = some k → N.fid k = f) (hΓ : Good P N Γ) {m : Lmap} {nt : Nat} (hnd : (m.map (·.1)).Nodup) (hp : plainM m = true) {id : Nat} {ops : Array Oper} (hn : ops.all nd = true) {l : List Stg}
    (hl : stages P tk fk ops nt m [] (List.range ops.size) = some l) {K : Env → Heap → Prop} {Q' : Exit → Act → World → Prop} {env : Env} {h : Heap} {a : Act} {w : World} (hK : stgsW N Γ l env h K) (hr : PR m nt env h a w)
    (hQ : ∀ env' h' a' w', K env' h' → PR m nt env' h' a' w' → WStep h h' w w' → Q' .normal a' w') : (Code.region id ops false).wpIn Fence.wide 0 P Q' a w := by
  have h1 := stages_sound htk hfk hΓ hnd (Q := fun e a' w' => e = .normal ∧ a'.defers = [] ∧ ∃ env' h', K env' h' ∧ PR m nt env' h' a' w' ∧ WStep h h' w w') (h0 := h) (w0 := w) (List.range ops.size) [] l noPb env h a w K hl hr hK
    (fun pb env' h' a' w' hk hr' => ⟨rfl, hr'.df, env', h', hk, hr'.again hp, hr'.step⟩)
  rw [List.reverse_nil, List.nil_append] at h1
  have h2 := wpOps_in (ro := none) (ds := marks []) (Q' := Q') hn (fun e a w hq => ⟨hq.1, hq.2.1⟩) (fun a' w' ⟨_, hd, env', h', h2, h3, h4⟩ => by rw [withD_nil hd]; exact hQ _ _ _ _ h2 h3 h4) _ h1
  rw [withD_nil hr.df] at h2
  exact wpIn_region h2
def leftOf (es : List MapEntry) (dn : List Nat) : Nat := (es.filter fun e => !dn.contains e.born).length
theorem leftOf_lt {es : List MapEntry} {dn : List Nat} {e : MapEntry} (he : e ∈ es) (hn : e.born ∉ dn) : leftOf es (dn ++ [e.born]) < leftOf es dn := by
  unfold leftOf
  have h1 : (es.filter fun x => !(dn ++ [e.born]).contains x.born) = (es.filter fun x => !dn.contains x.born).filter fun x => !(dn ++ [e.born]).contains x.born := by
    rw [List.filter_filter]
    congr 1
    funext x
    simp only [List.contains_eq_mem, List.mem_append, List.mem_singleton]
    by_cases h1 : x.born ∈ dn <;> by_cases h2 : x.born = e.born <;> simp [h1, h2]
  rw [h1]
  apply List.length_filter_lt_length_iff_exists.2
  exact ⟨e, List.mem_filter.2 ⟨he, by simpa using hn⟩, by simp⟩
theorem itRead_ok (htk : ∀ t k, tk t = some k → N.tid k = t) (hfk : ∀ f k, fk f = some k → N.fid k = f) (hΓ : Good P N Γ) {g : FuncId} {fn : Func} (hf : P.funcs[g]? = some fn) {off : Nat} (hr : itRead P tk fk fn = some (itA off, itB, itC)) : ItOk P g off := by
  unfold itRead at hr
  split at hr
  · rename_i _ i1 A b i2 B x b' b1 i3 C i4 D y hb
    split at hr
    · rename_i o0 o1 o2 o3 hD
      split at hr
      · rename_i hok
        simp only [Bool.and_eq_true, beq_iff_eq, Bool.not_eq_true'] at hok
        obtain ⟨⟨⟨⟨⟨⟨⟨⟨⟨⟨⟨⟨hbb, hnA⟩, hnB⟩, hnC⟩, s0⟩, s1⟩, s2⟩, s3⟩, hx⟩, hy⟩, hnt⟩, hres⟩, hname⟩ := hok
        subst hbb
        have hx := isTmp_spec hx
        have hy := isTmp_spec hy
        subst hx hy
        split at hr
        · rename_i sa sb sc ha hbs hcs
          cases hr
          refine ⟨fun args w => ?_, ?_⟩
          · have hn' : fn.name ≠ "runtime.NumGoroutine" := by simpa using hname
            simp [callFunc, program, Sem.run, hf, hn', hb]
          intro l c a m es ck h w1 J Jx hc1 hc2 hes hs hJ0 hJm hround
          have hnd : (m71.map (·.1)).Nodup := by decide
          have hpl : plainM m71 = true := rfl
          have hresl : fn.results.toList = [] := by simpa using hres
          refine callsIn_of_wp (F := Fence.wide) hf hb trivial ?_
          obtain ⟨env0', he0⟩ : ∃ e : Env, e = [some (.func (.yield l) #[] #[]), some (.pointer (some c)), none, none, none, none, none, none, none] := ⟨_, rfl⟩
          have hrel : PR m71 17 env0' h { tmps := #[.func (.yield l) #[] #[], .pointer (some c)] ++ Array.replicate (fn.ntmps - 2) undef, defers := [] } w1 := by
            rw [hnt, he0]
            refine ⟨rfl, ?_, ?_, (by intro i b hb; cases hb), (by intro i b hb; cases hb), (by intro i j b hb; cases hb), WStep.refl hs, by simp, rfl⟩
            · intro i slot hm v hv
              match i, hm, hv with
              | 0, hm, hv => cases hm; cases hv; simp
              | 1, hm, hv => cases hm; cases hv; simp
              | 2, hm, hv => cases hv
              | 3, hm, hv => cases hv
              | 4, hm, hv => cases hv
              | 5, hm, hv => cases hv
              | 6, hm, hv => cases hv
              | 7, hm, hv => cases hv
              | 8, hm, hv => cases hv
              | n + 9, hm, hv => cases hm
            · intro i slot hm v hv
              exact absurd hm (plainM_spec hpl)
          have hdone : ∀ (a' : Act) (W' : World), a'.defers = [] → ((∃ G dn, J dn G ∧ WStep h G w1 W' ∧ ∀ e ∈ es.toList, e.born ∈ dn) ∨ Jx W') → bodyPost P fn (fun en W' => (∃ v, en = .returned v) ∧ ((∃ G dn, J dn G ∧ WStep h G w1 W' ∧ ∀ e ∈ es.toList, e.born ∈ dn) ∨ Jx W')) .normal a' W' := by
            intro a' W' hd hfin
            refine ⟨hd, tup [], ?_, ⟨_, rfl⟩, hfin⟩
            unfold results
            rw [Array.mapM_eq_mapM_toList]
            simp only [Sem.run_bind, Sem.run_map, hresl, List.mapM_nil, Sem.run_pure, Result.andThen_ok]
            rfl
          refine wpIn_seq ?_
          refine r_reg htk hfk hΓ hnd hpl hnA ha (env := env0') (h := h) (K := fun env' h' => ∃ r, h r = none ∧ env' = env0'.put 3 (.pointer (some ⟨r, 0, none⟩)) ∧ h' = h.set r (.mapIter (some m) ck #[] ck)) ?_ hrel ?_
          · refine ⟨_, rfl, .inl ⟨rfl, [.map (some m)], ?_, es, ck, hJm _ _ hJ0, fun r hr => ⟨r, hr, rfl, rfl⟩⟩⟩
            have h1 : ev N env0' h (.o1 .ld (.o1 (.fadr off) (.o1 .nilck (.o1 .ld (.var 1))))) = some (.v (.map (some m))) := by
              simp [ev, he0, Env.get, o1V, hc1, hc2]
            simp [evVals, h1]
          rintro env1 h' a1 W2 ⟨r, hrn, rfl, rfl⟩ hr1 hst1
          refine wpIn_block ?_
          have hsr : ∀ {G : Heap} {o : Obj} {W : World}, G r = none → (G.set r o).sub W → G.sub W := by
            intro G o W hg hsub b o' hb
            have : b ≠ r := by intro e; subst e; rw [hg] at hb; cases hb
            exact hsub b o' (by simp [Heap.set, this, hb])
          have hrbig : ∀ b, b < w1.heap.size → h b = none → b ≠ r := by
            rintro b' hb' hn rfl
            have h1 := (hst1.frame b' hb' hn).1
            simp [Heap.set] at h1
          have chain : ∀ {G : Heap} {o1 o2 : Obj} {Wa Wb : World}, G r = none → WStep h G w1 Wa → WStep (G.set r o1) (G.set r o2) Wa Wb → WStep h G w1 Wb := by
            intro G o1 o2 Wa Wb hg hs1 hs2
            refine ⟨hsr hg hs2.sub, Nat.le_trans hs1.size hs2.size, hs2.os.trans hs1.os, hs2.tape.trans hs1.tape, hs2.output.trans hs1.output, fun b' hb' hn => ?_⟩
            obtain ⟨k1, k2⟩ := hs1.frame b' hb' hn
            obtain ⟨_, k4⟩ := hs2.frame b' (Nat.lt_of_lt_of_le hb' hs1.size) (by simp [Heap.set, hrbig b' hb' hn, k1])
            exact ⟨k1, k4.trans k2⟩
          refine wpIn_loop_ghost (fun n a' W => ∃ dn G env, J dn G ∧ G r = none ∧ WStep h G w1 W ∧ PR m71 17 env (G.set r (.mapIter (some m) ck dn.toArray ck)) a' W ∧ env.get 0 = some (.func (.yield l) #[] #[]) ∧ env.get 3 = some (.pointer (some ⟨r, 0, none⟩)) ∧ n = leftOf es.toList dn) (leftOf es.toList []) ?_ ?_
          · refine ⟨[], h, _, hJ0, hrn, ⟨hsr hrn hr1.step.sub, hst1.size, hst1.os, hst1.tape, hst1.output, fun b hb hn => ⟨hn, (hst1.frame b hb hn).2⟩⟩, hr1, ?_, ?_, rfl⟩
            · rw [he0]; rfl
            · rw [he0]; rfl
          rintro n a2 W ⟨dn, G, env, hJ, hGr, hstG, hr2, e0, e3, rfl⟩
          have hHm : (G.set r (.mapIter (some m) ck dn.toArray ck)) m = some (.map es ck) := by
            have h1 := hJm _ _ hJ
            have : m ≠ r := by intro e; subst e; rw [hGr] at h1; cases h1
            simp [Heap.set, this, h1]
          have hHr : (G.set r (.mapIter (some m) ck dn.toArray ck)) r = some (.mapIter (some m) ck dn.toArray ck) := by simp [Heap.set]
          refine wpIn_seq ?_
          refine r_reg htk hfk hΓ hnd hpl hnB hbs (env := env) (K := fun env' h' => env'.get 0 = some (.func (.yield l) #[] #[]) ∧ env'.get 3 = some (.pointer (some ⟨r, 0, none⟩)) ∧
            ((h' = G.set r (.mapIter (some m) ck dn.toArray ck) ∧ env'.get 5 = some (.bool false) ∧ ∀ e ∈ es.toList, e.born ∈ dn) ∨
             (∃ e ∈ es.toList, e.born ∉ dn ∧ h' = G.set r (.mapIter (some m) ck (dn ++ [e.born]).toArray ck) ∧ env'.get 5 = some (.bool true)))) ?_ hr2 ?_
          · have hlen : env.length = 9 := hr2.elen
            have hk : ∀ (v x : Value) (h' : Heap) (K : Env → Heap → Prop), o1V N (env.put 4 v) h' (.ext 0) (.v v) = some (.v x) → K ((env.put 4 v).put 5 x) h' → stgsW N Γ [⟨[⟨[], 5, (.o1 (.ext 0) (.var 4))⟩], none⟩] (env.put 4 v) h' K := by
              intro v x h' K hv hK
              refine ⟨(env.put 4 v).put 5 x, ?_, hK⟩
              have h1 : ev N (env.put 4 v) h' (.o1 (.ext 0) (.var 4)) = some (.v x) := by
                simp only [ev, Env.get_put_same (show 4 < env.length by omega), Option.map_some, Option.bind_some]; exact hv
              simp [putLets, evGs, h1]
            have hg : ∀ v x i, i ≠ 4 → i ≠ 5 → ((env.put 4 v).put 5 x).get i = env.get i := by
              intro v x i h4 h5; rw [Env.get_put_other (Ne.symm h5), Env.get_put_other (Ne.symm h4)]
            have hg5 : ∀ v x, ((env.put 4 v).put 5 x).get 5 = some x := by
              intro v x; exact Env.get_put_same (by rw [Env.len_put]; omega)
            refine ⟨env, rfl, .inl ⟨rfl, [.pointer (some ⟨r, 0, none⟩)], by simp [evVals, ev, e3], .inr ⟨m, ck, dn.toArray, ck, es, ck, hHr, hHm, ?_, cands_ne, fun c hc => ?_⟩⟩⟩
            · by_cases hem : es.isEmpty
              · simp [hem]
              · have : ∃ e, e ∈ es.toList := by
                  cases hl : es.toList with
                  | nil => exfalso; apply hem; simp [Array.isEmpty, ← Array.length_toList, hl]
                  | cons e l => exact ⟨e, by simp⟩
                obtain ⟨e, hme⟩ := this
                have hlt := hes e hme
                have : es.all (fun x => decide (x.born ≥ ck)) = false := by
                  rw [← Array.all_toList, List.all_eq_false]
                  exact ⟨e, hme, by simp; omega⟩
                simp [this]
            · cases c with
              | none => exact hk _ (.bool false) _ _ rfl ⟨by rw [hg _ _ _ (by omega) (by omega)]; exact e0, by rw [hg _ _ _ (by omega) (by omega)]; exact e3, .inl ⟨rfl, hg5 _ _, cands_none hes hc⟩⟩
              | some e =>
                obtain ⟨k1, k2⟩ := cands_some hc
                refine hk _ (.bool true) _ _ rfl ⟨by rw [hg _ _ _ (by omega) (by omega)]; exact e0, by rw [hg _ _ _ (by omega) (by omega)]; exact e3, .inr ⟨e, k1, k2, ?_, hg5 _ _⟩⟩
                funext z
                simp only [Heap.set]
                split
                · simp
                · rfl
          rintro env2 h2 a3 W3 ⟨f0, f3, hcase⟩ hr3 hst3
          rcases hcase with ⟨rfl, f5, hall⟩ | ⟨e, he, hnb, rfl, f5⟩
          · refine wpIn_seq ?_
            refine wpIn_cond_false (hr3.plain 5 10 rfl _ f5) (wpIn_exit ?_)
            show Exit.inBlock b _ (.exit b) a3 W3
            simp only [Exit.inBlock, if_true]
            exact hdone a3 W3 hr3.df (.inl ⟨G, dn, hJ, chain hGr hstG hst3, hall⟩)
          refine wpIn_seq ?_
          refine wpIn_cond_true (hr3.plain 5 10 rfl _ f5) (wpIn_skip ?_)
          show Code.wpIn _ _ _ _ _ _ _
          refine wpIn_block ?_
          obtain ⟨e', hfind, he', hbe⟩ := find_born es.toList he
          rw [← hbe] at hnb
          have hstG3 : WStep h G w1 W3 := chain hGr hstG hst3
          refine wpIn_seq ?_
          refine r_reg htk hfk hΓ hnd hpl hnC hcs (env := env2) (K := fun env' h' => env'.get 0 = some (.func (.yield l) #[] #[]) ∧ env'.get 3 = some (.pointer (some ⟨r, 0, none⟩)) ∧ env'.get 2 = some e'.key ∧ h' = G.set r (.mapIter (some m) ck (dn ++ [e.born]).toArray ck)) ?_ hr3 ?_
          · have hlen : env2.length = 9 := hr3.elen
            refine ⟨env2, rfl, .inl ⟨rfl, [.pointer (some ⟨r, 0, none⟩)], by simp [evVals, ev, f3], m, ck, (dn ++ [e.born]).toArray, ck, e.born, es, by simp [Heap.set], by simp, ?_, e', by rw [← Array.find?_toList]; exact hfind, ?_⟩⟩
            · have h1 := hJm _ _ hJ
              have : m ≠ r := by intro e; subst e; rw [hGr] at h1; cases h1
              simp [Heap.set, this, h1]
            · refine ⟨(env2.put 6 (.tuple #[e'.key, e'.val])).put 2 e'.key, ?_, ?_⟩
              · have h1 : ev N (env2.put 6 (.tuple #[e'.key, e'.val])) (G.set r (.mapIter (some m) ck (dn ++ [e.born]).toArray ck)) (.o1 (.ext 0) (.var 6)) = some (.v e'.key) := by
                  simp only [ev, Env.get_put_same (show 6 < env2.length by omega), Option.map_some, Option.bind_some]; rfl
                simp [putLets, evGs, h1, putD]
              · refine ⟨?_, ?_, ?_, rfl⟩
                · rw [Env.get_put_other (by omega), Env.get_put_other (by omega)]; exact f0
                · rw [Env.get_put_other (by omega), Env.get_put_other (by omega)]; exact f3
                · exact Env.get_put_same (by rw [Env.len_put]; omega)
          rintro env3 h3 a4 W4 ⟨g0, g3, g2, rfl⟩ hr4 hst4
          have hstG4 : WStep h G w1 W4 := chain hGr hstG3 hst4
          have hrW4 : W4.heap[r]? = some (.mapIter (some m) ck (dn ++ [e.born]).toArray ck) := hr4.step.sub r _ (by simp [Heap.set])
          refine wpIn_seq ?_
          have t0 := hr4.plain 0 0 rfl _ g0
          have t3 := hr4.plain 2 3 rfl _ g2
          have t8 := hr4.plain 3 8 rfl _ g3
          refine it_call hD s0 s1 s2 s3 hr4.nt t0 t3 ?_
          obtain ⟨fn', tm, as, bd, hy1, hy2⟩ := hround dn G W4 e' he' hJ hstG4 hnb
          refine ⟨fn', tm, as, bd, hy1, hy2.mono ?_⟩
          have hn4 := hr4.nt
          have gp : ∀ (bv : Bool), ((((a4.put (some 13) (.func (.yield l) #[] #[])).put (some 14) e'.key).put (some 15) (.bool bv)).put (some 16) (.bool (!bv))).tmps.getD 16 undef = .bool (!bv) := by
            intro bv; rw [getD_put _ _ _ _ (by simp [Act.put, hn4]), if_pos rfl]
          have gq : ∀ (bv : Bool) (t : Nat), t < 13 → ((((a4.put (some 13) (.func (.yield l) #[] #[])).put (some 14) e'.key).put (some 15) (.bool bv)).put (some 16) (.bool (!bv))).tmps.getD t undef = a4.tmps.getD t undef := by
            intro bv t ht
            rw [getD_put _ _ _ _ (by simp [Act.put, hn4]), if_neg (by omega), getD_put _ _ _ _ (by simp [Act.put, hn4]), if_neg (by omega), getD_put _ _ _ _ (by simp [Act.put, hn4]), if_neg (by omega), getD_put _ _ _ _ (by omega), if_neg (by omega)]
          have hdf : ∀ (bv : Bool), ((((a4.put (some 13) (.func (.yield l) #[] #[])).put (some 14) e'.key).put (some 15) (.bool bv)).put (some 16) (.bool (!bv))).defers = [] := by
            intro bv; simp only [put_defers]; exact hr4.df
          rintro en W5 (⟨rfl, G', hJ', hst5⟩ | ⟨rfl, hjx⟩)
          · refine ⟨true, rfl, ?_⟩
            show Code.wpIn _ _ _ _ _ _ _
            refine wpIn_cond_false (gp true) (wpIn_skip ?_)
            obtain ⟨hG'r, hW5r⟩ := hst5.frame r (Array.getElem?_eq_some_iff.1 hrW4).1 hGr
            rw [hrW4] at hW5r
            refine ⟨leftOf es.toList (dn ++ [e'.born]), leftOf_lt he' hnb, dn ++ [e'.born], G', [some (.func (.yield l) #[] #[]), none, none, some (.pointer (some ⟨r, 0, none⟩)), none, none, none, none, none], hJ', hG'r, hstG4.trans hst5, ?_, rfl, rfl, rfl⟩
            refine ⟨rfl, ?_, ?_, (by intro i b hb; cases hb), (by intro i b hb; cases hb), (by intro i j b hb; cases hb), WStep.refl ?_, by simp [Act.put, hn4], hdf true⟩
            · intro i slot hm v hv
              match i, hm, hv with
              | 0, hm, hv => cases hm; cases hv; rw [gq true 0 (by omega)]; exact t0
              | 1, hm, hv => cases hv
              | 2, hm, hv => cases hv
              | 3, hm, hv => cases hm; cases hv; rw [gq true 8 (by omega)]; exact t8
              | 4, hm, hv => cases hv
              | 5, hm, hv => cases hv
              | 6, hm, hv => cases hv
              | 7, hm, hv => cases hv
              | 8, hm, hv => cases hv
              | n + 9, hm, hv => cases hm
            · intro i slot hm v hv
              exact absurd hm (plainM_spec hpl)
            · intro z o hz
              simp only [Heap.set] at hz
              split at hz
              · rename_i ez; cases hz; subst ez; rw [hbe]; exact hW5r
              · exact hst5.sub z o hz
          · refine ⟨false, rfl, ?_⟩
            show Code.wpIn _ _ _ _ _ _ _
            exact wpIn_cond_true (gp false) (wpIn_ret (hdone _ W5 (hdf false) (.inr hjx)))
        · cases hr
      · cases hr
    · cases hr
  · cases hr
end Go.Cw
namespace Go.Cw
open Go
def ele : Env → Env → Prop
  | [], [] => True
  | none :: e, _ :: e' => ele e e'
  | some x :: e, some y :: e' => x = y ∧ ele e e'
  | _, _ => False
theorem ele_refl : ∀ e : Env, ele e e
  | [] => trivial
  | none :: e => ele_refl e
  | some _ :: e => ⟨rfl, ele_refl e⟩
theorem ele_trans : ∀ (a b c : Env), ele a b → ele b c → ele a c := by
  intro a
  induction a with
  | nil => intro b c h1 h2; cases b <;> cases c <;> simp_all [ele]
  | cons x a ih =>
    intro b c h1 h2
    cases b with
    | nil => cases x <;> simp [ele] at h1
    | cons y b =>
      cases c with
      | nil => cases y <;> simp [ele] at h2
      | cons z c =>
        cases x with
        | none =>
          simp only [ele] at h1 ⊢
          cases y with
          | none => simp only [ele] at h2; exact ih _ _ h1 h2
          | some y =>
            cases z with
            | none => simp [ele] at h2
            | some z => simp only [ele] at h2; exact ih _ _ h1 h2.2
        | some x =>
          cases y with
          | none => simp [ele] at h1
          | some y =>
            cases z with
            | none => simp [ele] at h2
            | some z => simp only [ele] at h1 h2 ⊢; exact ⟨h1.1.trans h2.1, ih _ _ h1.2 h2.2⟩
theorem ele_get : ∀ {e e' : Env}, ele e e' → ∀ {i : Nat} {v : Value}, Env.get e i = some v → Env.get e' i = some v
  | [], [], _, i, v, h => h
  | none :: e, y :: e', hl, i, v, h => by
    cases i with
    | zero => simp [Env.get] at h
    | succ i => have := ele_get (e := e) (e' := e') hl (i := i) (v := v) (by simpa [Env.get] using h); simpa [Env.get] using this
  | some x :: e, some y :: e', hl, i, v, h => by
    obtain ⟨rfl, hl⟩ := hl
    cases i with
    | zero => simpa [Env.get] using h
    | succ i => have := ele_get (e := e) (e' := e') hl (i := i) (v := v) (by simpa [Env.get] using h); simpa [Env.get] using this
  | [], _ :: _, hl, _, _, _ => hl.elim
  | some _ :: _, none :: _, hl, _, _, _ => hl.elim
  | none :: _, [], hl, _, _, _ => hl.elim
  | some _ :: _, [], hl, _, _, _ => hl.elim
theorem ele_put : ∀ {e e' : Env}, ele e e' → ∀ (i : Nat) (v : Value), ele (e.put i v) (e'.put i v)
  | [], [], _, i, v => trivial
  | none :: e, y :: e', hl, i, v => by
    cases i with
    | zero => exact ⟨rfl, hl⟩
    | succ i => exact ele_put (e := e) (e' := e') hl i v
  | some x :: e, some y :: e', hl, i, v => by
    obtain ⟨rfl, hl⟩ := hl
    cases i with
    | zero => exact ⟨rfl, hl⟩
    | succ i => exact ⟨rfl, ele_put (e := e) (e' := e') hl i v⟩
  | [], _ :: _, hl, _, _ => hl.elim
  | some _ :: _, none :: _, hl, _, _ => hl.elim
  | none :: _, [], hl, _, _ => hl.elim
  | some _ :: _, [], hl, _, _ => hl.elim
section
variable {N : Num} {e e' : Env} {h : Heap}
theorem o1V_mono (hl : ele e e') {o : O1} {u r : UV} (hr : o1V N e h o u = some r) : o1V N e' h o u = some r := by
  cases u with
  | v x => simpa only [o1V] using hr
  | p i off =>
    cases o <;> simp only [o1V] at hr ⊢ <;> try exact hr
    · split at hr
      · rename_i c hc; rw [ele_get hl hc]; exact hr
      · cases hr
    · split at hr
      · rename_i c hc; rw [ele_get hl hc]; exact hr
      · cases hr
theorem ev_mono (hl : ele e e') : ∀ (x : Ex) {u : UV}, ev N e h x = some u → ev N e' h x = some u := by
  intro x
  induction x with
  | var i =>
    intro u hu; simp only [ev, Option.map_eq_some_iff] at hu ⊢
    obtain ⟨v, h1, h2⟩ := hu; exact ⟨v, ele_get hl h1, h2⟩
  | pad i =>
    intro u hu; simp only [ev, Option.map_eq_some_iff] at hu ⊢
    obtain ⟨v, h1, h2⟩ := hu; exact ⟨v, ele_get hl h1, h2⟩
  | cnt i =>
    intro u hu; simp only [ev, Option.map_eq_some_iff] at hu ⊢
    obtain ⟨v, h1, h2⟩ := hu; exact ⟨v, ele_get hl h1, h2⟩
  | con x => intro u hu; exact hu
  | mkf f => intro u hu; exact hu
  | o1 o a ih =>
    intro u hu; simp only [ev, Option.bind_eq_some_iff] at hu ⊢
    obtain ⟨v, h1, h2⟩ := hu; exact ⟨v, ih h1, o1V_mono hl h2⟩
  | o2 o a b iha ihb =>
    intro u hu; simp only [ev, Option.bind_eq_some_iff] at hu ⊢
    obtain ⟨v, h1, w, h2, h3⟩ := hu; exact ⟨v, iha h1, w, ihb h2, h3⟩
  | o3 o a b c iha ihb ihc =>
    intro u hu; simp only [ev, Option.bind_eq_some_iff] at hu ⊢
    obtain ⟨v, h1, w, h2, z, h3, h4⟩ := hu; exact ⟨v, iha h1, w, ihb h2, z, ihc h3, h4⟩
  | pick c a b ihc iha ihb =>
    intro u hu; simp only [ev] at hu ⊢
    split at hu
    · rename_i hc; rw [ihc hc]; exact iha hu
    · rename_i hc; rw [ihc hc]; exact ihb hu
    · cases hu
  | upd base i n a v ihb iha ihv =>
    intro u hu; simp only [ev] at hu ⊢
    split at hu
    · rename_i h1 h2 h3; rw [ihb h1, iha h2, ihv h3]; exact hu
    · cases hu
theorem evGs_mono (hl : ele e e') : ∀ (g : List (Ex × Bool)) {b : Bool}, evGs N e h g = some b → evGs N e' h g = some b := by
  intro g
  induction g with
  | nil => intro b hb; exact hb
  | cons x r ih =>
    obtain ⟨x, w⟩ := x
    intro b hb
    simp only [evGs] at hb ⊢
    split at hb
    · cases hb
    · rename_i y hy
      rw [ev_mono hl x hy]
      split at hb
      · rename_i hw; simp only [hw, if_true]; exact ih hb
      · rename_i hw; simp only [hw, if_false]; exact hb
    · rename_i z hz hn
      cases hb
      cases z with
      | p i off => rw [ev_mono hl x hn]
      | v z => rw [ev_mono hl x hn]; cases z <;> first | rfl | (exact absurd rfl (hz _))
theorem evVals_mono (hl : ele e e') : ∀ (l : List Ex) {vs : List Value}, evVals N e h l = some vs → evVals N e' h l = some vs := by
  intro l
  induction l with
  | nil => intro vs hv; exact hv
  | cons x r ih =>
    intro vs hv
    simp only [evVals] at hv ⊢
    split at hv <;> cases hv
    rename_i y ys h1 h2
    rw [ev_mono hl x h1, ih h2]
theorem putLets_mono (hl : ele e e') : ∀ (l : List Let) {f f' g : Env}, ele f f' → putLets N e h l f = some g → ∃ g', putLets N e' h l f' = some g' ∧ ele g g' := by
  intro l
  induction l with
  | nil => intro f f' g hf hg; cases hg; exact ⟨f', rfl, hf⟩
  | cons x r ih =>
    intro f f' g hf hg
    simp only [putLets] at hg ⊢
    split at hg
    · cases hg
    · rename_i hb; rw [evGs_mono hl _ hb]; exact ih (ele_put hf _ _) hg
    · rename_i hb
      rw [evGs_mono hl _ hb]
      split at hg
      · rename_i y hy; rw [ev_mono hl _ hy]; exact ih (ele_put hf _ _) hg
      · cases hg
end
def Good1 (Γ : Ctx) : Prop := ∀ k us h (K K' : Value → Heap → Prop), (∀ v h, K v h → K' v h) → Γ k us h K → Γ k us h K'
class MonoQ (Q : SE → Env → Heap → Prop) : Prop where
  up : ∀ {e env env' h}, ele env env' → Q e env h → Q e env' h
theorem efW_imp {N : Num} {Γ : Ctx} (hΓ : Good1 Γ) {f : Ef} {us : List Value} {h : Heap} {K K' : Value → Heap → Prop} (hKK : ∀ v h, K v h → K' v h) (hx : efW N Γ f us h K) : efW N Γ f us h K' := by
  unfold efW at hx ⊢
  split at hx
  · exact fun b hb => hKK _ _ (hx b hb)
  · exact fun b hb => hKK _ _ (hx b hb)
  · obtain ⟨m, news, h1, h2⟩ := hx
    refine ⟨m, news, h1, ?_⟩
    split at h2
    · rename_i hn
      simp only [hn, if_true]
      split at h2
      · exact hKK _ _ h2
      · obtain ⟨h', h3, h4⟩ := h2; exact ⟨h', h3, hKK _ _ h4⟩
    · rename_i hn
      simp only [hn, if_false]
      obtain ⟨h3, h4, m', olds, h5, h6⟩ := h2
      exact ⟨h3, h4, m', olds, h5, fun b cap tail a1 a2 a3 a4 => hKK _ _ (h6 b cap tail a1 a2 a3 a4)⟩
  · exact hΓ _ _ _ _ _ hKK hx
  · obtain ⟨k, h1, h2, h3⟩ := hx; exact ⟨k, h1, h2, hΓ _ _ _ _ _ hKK h3⟩
  · exact fun b hb => hKK _ _ (hx b hb)
  · obtain ⟨es, ck, h1, x, h2, h3⟩ := hx
    refine ⟨es, ck, h1, x, h2, ?_⟩
    split at h3 <;> exact hKK _ _ h3
  · obtain ⟨es, ck, h1, x, h2, h3⟩ := hx
    refine ⟨es, ck, h1, x, h2, ?_⟩
    split at h3 <;> exact hKK _ _ h3
  · obtain ⟨h1, h', h2, h3⟩ := hx; exact ⟨h1, h', h2, hKK _ _ h3⟩
  · obtain ⟨c, h1, h', h2, h3, h4⟩ := hx; exact ⟨c, h1, h', h2, h3, hKK _ _ h4⟩
  · exact fun b hb => hKK _ _ (hx b hb)
  · obtain ⟨es, ck, h1, h2⟩ := hx; exact ⟨es, ck, h1, fun b hb => hKK _ _ (h2 b hb)⟩
  · rcases hx with ⟨s1, s2, s3, h1, h2⟩ | ⟨m, since, seen, last, es, ck, h1, h2, h3, h4, h5⟩
    · exact .inl ⟨s1, s2, s3, h1, hKK _ _ h2⟩
    · refine .inr ⟨m, since, seen, last, es, ck, h1, h2, h3, h4, fun c hc => ?_⟩
      have := h5 c hc
      split at this <;> exact hKK _ _ this
  · obtain ⟨m, since, seen, stepped, stamp, es, h1, h2, h3, e, h4, h5⟩ := hx
    exact ⟨m, since, seen, stepped, stamp, es, h1, h2, h3, e, h4, hKK _ _ h5⟩
  · exact hx.elim
section
variable {N : Num} {Γ : Ctx}
theorem putD_mono {e e' : Env} (hl : ele e e') (d : Option Nat) (v : Value) : ele (putD e d v) (putD e' d v) := by
  cases d with
  | none => exact hl
  | some i => exact ele_put hl i v
theorem eiW_mono (hΓ : Good1 Γ) {x : EI} {e e' f f' : Env} {h : Heap} {K K' : Env → Heap → Prop} (hK : ∀ {e e' h}, ele e e' → K e h → K' e' h) (hl : ele e e') (hf : ele f f') (hx : eiW N Γ x e f h K) : eiW N Γ x e' f' h K' := by
  cases x with
  | ef gs ff args dst =>
    rcases hx with ⟨h1, us, h2, h3⟩ | ⟨h1, h2⟩
    · exact .inl ⟨evGs_mono hl _ h1, us, evVals_mono hl _ h2, efW_imp hΓ (fun v h hk => hK (putD_mono hf _ _) hk) h3⟩
    · exact .inr ⟨evGs_mono hl _ h1, hK (putD_mono hf _ _) h2⟩
  | pnew i x => obtain ⟨v, h1, h2⟩ := hx; exact ⟨v, ev_mono hl _ h1, hK (ele_put hf _ _) h2⟩
  | pst i x => obtain ⟨v, h1, h2⟩ := hx; exact ⟨v, ev_mono hl _ h1, hK (ele_put hf _ _) h2⟩
theorem stgW_mono (hΓ : Good1 Γ) {s : Stg} {e e' : Env} {h : Heap} {K K' : Env → Heap → Prop} (hK : ∀ {e e' h}, ele e e' → K e h → K' e' h) (hl : ele e e') (hx : stgW N Γ s e h K) : stgW N Γ s e' h K' := by
  obtain ⟨l, x⟩ := s
  obtain ⟨f, h1, h2⟩ := hx
  obtain ⟨f', h3, h4⟩ := putLets_mono hl _ hl h1
  refine ⟨f', h3, ?_⟩
  cases x with
  | none => exact hK h4 h2
  | some x => exact eiW_mono hΓ hK hl h4 h2
theorem stgsW_mono (hΓ : Good1 Γ) : ∀ (l : List Stg) {e e' : Env} {h : Heap} {K K' : Env → Heap → Prop}, (∀ {e e' h}, ele e e' → K e h → K' e' h) → ele e e' → stgsW N Γ l e h K → stgsW N Γ l e' h K' := by
  intro l
  induction l with
  | nil => intro e e' h K K' hK hl hx; exact hK hl hx
  | cons s r ih => intro e e' h K K' hK hl hx; exact stgW_mono hΓ (fun hl hx => ih hK hl hx) hl hx
theorem covX_mono {e e' : Env} {h : Heap} (hl : ele e e') {l : Let} (hc : covX N e h l) : covX N e' h l := by
  obtain ⟨b, h1, h2⟩ := hc
  exact ⟨b, evGs_mono hl _ h1, fun hb => let ⟨u, hu⟩ := h2 hb; ⟨u, ev_mono hl _ hu⟩⟩
theorem dsK_mono {fl : Bool} {wx : List Let} {ws : List Heap} {e e' f f' : Env} {h h' : Heap} {K K' : List Heap → Env → Heap → Prop} (hK : ∀ ws, K ws f h' → K' ws f' h') (hl : ele e e') (hk : dsK N fl wx ws e h K f h') : dsK N fl wx ws e' h K' f' h' := by
  unfold dsK at hk ⊢
  split at hk
  · exact ⟨hk.1, hK _ hk.2⟩
  · obtain ⟨x, h1, h2, h3⟩ := hk
    exact ⟨x, h1.imp id fun ⟨a, b⟩ => ⟨a, fun l hl' => covX_mono hl (b l hl')⟩, h2, hK _ h3⟩
theorem dsW_mono (hΓ : Good1 Γ) : ∀ (d : DS) {ws : List Heap} {e e' : Env} {h : Heap} {K K' : Env → Heap → Prop}, (∀ {e e' h}, ele e e' → K e h → K' e' h) → ele e e' → dsW N Γ d ws e h K → dsW N Γ d ws e' h K' := by
  intro d
  induction d with
  | done s => intro ws e e' h K K' hK hl hx; exact stgW_mono hΓ hK hl hx
  | eff fl wx s r ih => intro ws e e' h K K' hK hl hx; exact stgW_mono hΓ (fun hl' hx => dsK_mono (fun ws hx => ih hK hl' hx) hl hx) hl hx
  | alt fl wx s r fl' wx' s' r' ih ih' =>
    intro ws e e' h K K' hK hl hx
    exact ⟨stgW_mono hΓ (fun hl' hx => dsK_mono (fun ws hx => ih hK hl' hx) hl hx) hl hx.1, stgW_mono hΓ (fun hl' hx => dsK_mono (fun ws hx => ih' hK hl' hx) hl hx) hl hx.2⟩
theorem SW_mono (hΓ : Good1 Γ) : ∀ (s : St) {e e' : Env} {h : Heap} {Q Q' : SE → Env → Heap → Prop}, (∀ {x e e' h}, ele e e' → Q x e h → Q' x e' h) → ele e e' → SW N Γ s Q e h → SW N Γ s Q' e' h := by
  intro s
  induction s with
  | skip => intro e e' h Q Q' hQ hl hx; exact hQ hl hx
  | ret => intro e e' h Q Q' hQ hl hx; exact hQ hl hx
  | exit i => intro e e' h Q Q' hQ hl hx; exact hQ hl hx
  | seq a b iha ihb =>
    intro e e' h Q Q' hQ hl hx
    refine iha ?_ hl hx
    intro x e e' h hl hx
    cases x with
    | normal => exact ihb hQ hl hx
    | exit i => exact hQ hl hx
    | ret => exact hQ hl hx
  | reg l => intro e e' h Q Q' hQ hl hx; exact stgsW_mono hΓ l (fun hl hx => hQ hl hx) hl hx
  | dreg d => intro e e' h Q Q' hQ hl hx; exact dsW_mono hΓ d (fun hl hx => hQ hl hx) hl hx
  | cond c a b iha ihb =>
    intro e e' h Q Q' hQ hl hx
    obtain ⟨t, h1, h2, h3⟩ := hx
    exact ⟨t, ev_mono hl _ h1, fun ht => iha hQ hl (h2 ht), fun ht => ihb hQ hl (h3 ht)⟩
  | block i a ih =>
    intro e e' h Q Q' hQ hl hx
    refine ih ?_ hl hx
    intro x e e' h hl hx
    cases x with
    | normal => exact hQ hl hx
    | exit j =>
      simp only at hx ⊢
      split at hx
      · rename_i hj; simp only [hj, if_true]; exact hQ hl hx
      · rename_i hj; simp only [hj, if_false]; exact hQ hl hx
    | ret => exact hQ hl hx
  | loop s ih =>
    intro e e' h Q Q' hQ hl hx
    obtain ⟨I, n, h1, h2⟩ := hx
    refine ⟨fun n e h => ∃ e0, ele e0 e ∧ I n e0 h, n, ⟨e, hl, h1⟩, ?_⟩
    rintro n e h ⟨e0, h3, h4⟩
    refine ih ?_ h3 (h2 n e0 h h4)
    intro x e e' h hl hx
    cases x with
    | normal => obtain ⟨n', h5, h6⟩ := hx; exact ⟨n', h5, e, hl, h6⟩
    | exit i => exact hQ hl hx
    | ret => exact hQ hl hx
  | rfn k off i ip asg body iha ihb =>
    intro e e' h Q Q' hQ hl hx
    obtain ⟨c, a, m, es, ck, h1, h2, h3, h4, h5, J, h6, h7⟩ := hx
    refine ⟨c, a, m, es, ck, ele_get hl h1, h2, h3, h4, h5, J, h6, fun dn G hJ => ?_⟩
    obtain ⟨h8, h9, h10⟩ := h7 dn G hJ
    refine ⟨h8, fun hd => hQ hl (h9 hd), fun x hx hn => ?_⟩
    refine iha ?_ (ele_put hl _ _) (h10 x hx hn)
    intro y f f' h hl' hy
    cases y with
    | normal =>
      refine ihb ?_ hl' hy
      intro z g g' h hl'' hz
      cases z with
      | normal => exact hz
      | exit i => exact hQ hl hz
      | ret => exact hQ hl hz
    | exit i => exact hy
    | ret => exact hy
end
end Go.Cw
namespace Go.Cw
open Go
class GoodC (Γ : Ctx) : Prop where
  imp : Good1 Γ
def GF (P : Program) (N : Num) : Ctx := fun k args h K => FC P (N.fid k) args h K
def Has (P : Program) (N : Num) (k : Nat) (F : SFun) : Prop := ∀ args h K, SF N (GF P N) F args h K → GF P N k args h K
abbrev Spec := List Value → Heap → (Value → Heap → Prop) → Prop
def Sat (S G : Spec) : Prop := ∀ args h K, S args h K → G args h K
theorem Sat.of {P : Program} {N : Num} {k : Nat} {F : SFun} {S : Spec} (hh : Has P N k F) (hs : Sat S (SF N (GF P N) F)) : Sat S (GF P N k) := fun args h K hx => hh args h K (hs args h K hx)
instance (P : Program) (N : Num) : GoodC (GF P N) where
  imp := by
    intro k us h K K' hKK hx
    rcases hx with hx | hx
    · refine .inl ⟨hx.1, fun w hs cs => ?_⟩
      obtain ⟨e, w', fr, ⟨v, h', h1, h2, h3⟩, h4⟩ := hx.2 w hs cs
      exact ⟨e, w', fr, ⟨v, h', h1, hKK _ _ h2, h3⟩, h4⟩
    · refine .inr fun w hs => ?_
      obtain ⟨v, h', w', h1, h2, h3⟩ := hx w hs
      exact ⟨v, h', w', h1, hKK _ _ h2, h3⟩
def seqK (N : Num) (Γ : Ctx) (b : St) (Q : SE → Env → Heap → Prop) : SE → Env → Heap → Prop := fun e env h => match e with
  | .normal => SW N Γ b Q env h
  | e => Q e env h
def blkK (i : Nat) (Q : SE → Env → Heap → Prop) : SE → Env → Heap → Prop := fun e env h => match e with
  | .exit j => if j = i then Q .normal env h else Q (.exit j) env h
  | e => Q e env h
def loopK {σ : Type} (E : σ → Env) (I : σ → Heap → Prop) (m : σ → Nat) (n : Nat) (Q : SE → Env → Heap → Prop) : SE → Env → Heap → Prop := fun e env h => match e with
  | .normal => ∃ s, m s < n ∧ ele (E s) env ∧ I s h
  | e => Q e env h
def finK (N : Num) (res : List Ex) (K : Value → Heap → Prop) : SE → Env → Heap → Prop := fun e env h => match e with
  | .exit _ => False
  | _ => ∃ vs, evVals N env h res = some vs ∧ K (tup vs) h
def meetK (R : Env → Heap → Prop) (Q : SE → Env → Heap → Prop) : SE → Env → Heap → Prop := fun e env h => match e with
  | .normal => ∃ env0, ele env0 env ∧ R env0 h
  | e => Q e env h
def normK (Q : SE → Env → Heap → Prop) : Env → Heap → Prop := Q .normal
def stgsK (N : Num) (Γ : Ctx) (r : List Stg) (K : Env → Heap → Prop) : Env → Heap → Prop := fun env h => stgsW N Γ r env h K
def dsC (N : Num) (Γ : Ctx) (r : DS) (K : Env → Heap → Prop) : List Heap → Env → Heap → Prop := fun ws env h => dsW N Γ r ws env h K
def effK (K : Env → Heap → Prop) (d : Option Nat) (env1 : Env) : Value → Heap → Prop := fun v h => K (putD env1 d v) h
def letW (o : Option Env) (K : Env → Heap → Prop) (h : Heap) : Prop := match o with
  | some e => K e h
  | none => False
def letE (N : Num) (Γ : Ctx) (x : EI) (o : Option Env) (env : Env) (h : Heap) (K : Env → Heap → Prop) : Prop := match o with
  | some e => eiW N Γ x env e h K
  | none => False
def pnewW (i : Nat) (o : Option UV) (env1 : Env) (h : Heap) (K : Env → Heap → Prop) : Prop := match o with
  | some (.v x) => K (env1.put i (.agg x.cells)) h
  | _ => False
def pstW (i : Nat) (o : Option UV) (env1 : Env) (h : Heap) (K : Env → Heap → Prop) : Prop := match o with
  | some (.v x) => K (env1.put i x) h
  | _ => False
def argsW (N : Num) (Γ : Ctx) (f : Ef) (o : Option (List Value)) (h : Heap) (K : Value → Heap → Prop) : Prop := match o with
  | some us => efW N Γ f us h K
  | none => False
def guardW (N : Num) (Γ : Ctx) (o : Option Bool) (f : Ef) (args : List Ex) (d : Option Nat) (env0 env1 : Env) (h : Heap) (K : Env → Heap → Prop) : Prop := match o with
  | some true => argsW N Γ f (evVals N env0 h args) h (effK K d env1)
  | some false => K (putD env1 d undef) h
  | none => False
def condW (N : Num) (Γ : Ctx) (o : Option UV) (a b : St) (Q : SE → Env → Heap → Prop) (env : Env) (h : Heap) : Prop := match o with
  | some (.v (.bool true)) => SW N Γ a Q env h
  | some (.v (.bool false)) => SW N Γ b Q env h
  | _ => False
def altW (N : Num) (Γ : Ctx) (d : DS) (ws : List Heap) (env : Env) (h : Heap) (K : Env → Heap → Prop) : Prop := dsW N Γ d ws env h K
def leW (ws : List Heap) (h : Heap) (A : Prop) : Prop := (∀ x ∈ ws, Heap.le x h) ∧ A
def valsW (o : Option (List Value)) (K : Value → Heap → Prop) (h : Heap) : Prop := match o with
  | some vs => K (tup vs) h
  | none => False
def letG (N : Num) (g : Option Bool) (env : Env) (h : Heap) (i : Nat) (e : Ex) (r : List Let) (E : Env) : Option Env := match g with
  | some true => putLets N env h (⟨[], i, e⟩ :: r) E
  | some false => putLets N env h r (E.put i undef)
  | none => none
def letV (N : Num) (o : Option UV) (env : Env) (h : Heap) (i : Nat) (r : List Let) (E : Env) : Option Env := match o with
  | some (.v x) => putLets N env h r (E.put i x)
  | _ => none
def gsS (N : Num) (o : Option UV) (w : Bool) (env : Env) (h : Heap) (r : List (Ex × Bool)) : Option Bool := match o with
  | some (.v (.bool b)) => if b = w then evGs N env h r else some false
  | some _ => some false
  | none => none
def consV (o : Option UV) (r : Option (List Value)) : Option (List Value) := match o, r with
  | some (.v x), some xs => some (x :: xs)
  | _, _ => none
def pickU (c a b : Option UV) : Option UV := match c with
  | some (.v (.bool true)) => a
  | some (.v (.bool false)) => b
  | _ => none
def updU (i n : Nat) (b a v : Option UV) : Option UV := match b, a, v with
    | some (.v (.agg c)), some (.p j off), some (.v x) => if j = i ∧ x.cells.size = n ∧ off + n ≤ c.size ∧ x.cells.toList.all one = true then some (.v (.agg (putL c off x.cells.toList))) else none
    | _, _, _ => none
def u1 (N : Num) (env : Env) (h : Heap) (o : O1) (a : Option UV) : Option UV := a.bind (o1V N env h o)
def u2 (h : Heap) (o : O2) (a b : Option UV) : Option UV := a.bind fun x => b.bind fun y => o2V h o x y
def u3 (o : O3) (a b c : Option UV) : Option UV := a.bind fun x => b.bind fun y => c.bind fun z => o3V o x y z
section
variable {N : Num} {Γ : Ctx} {env env' E E' : Env} {h : Heap} {K : Env → Heap → Prop} {Q : SE → Env → Heap → Prop} {s : St} {l : List Let} {r : List Stg} {x : EI} {i n : Nat}
@[congr] theorem SW_congr (e : env = env') : SW N Γ s Q env h = SW N Γ s Q env' h := by rw [e]
@[congr] theorem stgsW_congr (e : env = env') : stgsW N Γ r env h K = stgsW N Γ r env' h K := by rw [e]
@[congr] theorem stgW_congr {s : Stg} (e : env = env') : stgW N Γ s env h K = stgW N Γ s env' h K := by rw [e]
@[congr] theorem dsW_congr {d : DS} {ws : List Heap} (e : env = env') : dsW N Γ d ws env h K = dsW N Γ d ws env' h K := by rw [e]
@[congr] theorem eiW_congr (e : env = env') (e2 : E = E') : eiW N Γ x env E h K = eiW N Γ x env' E' h K := by rw [e, e2]
@[congr] theorem putLets_congr (e : env = env') (e2 : E = E') : putLets N env h l E = putLets N env' h l E' := by rw [e, e2]
@[congr] theorem ev_congr {x : Ex} (e : env = env') : ev N env h x = ev N env' h x := by rw [e]
@[congr] theorem evVals_congr {x : List Ex} (e : env = env') : evVals N env h x = evVals N env' h x := by rw [e]
@[congr] theorem evGs_congr {x : List (Ex × Bool)} (e : env = env') : evGs N env h x = evGs N env' h x := by rw [e]
@[congr] theorem seqK_congr {e : SE} (he : env = env') : seqK N Γ s Q e env h = seqK N Γ s Q e env' h := by rw [he]
@[congr] theorem blkK_congr {e : SE} (he : env = env') : blkK i Q e env h = blkK i Q e env' h := by rw [he]
@[congr] theorem loopK_congr {σ : Type} {F : σ → Env} {I : σ → Heap → Prop} {m : σ → Nat} {e : SE} (he : env = env') : loopK F I m n Q e env h = loopK F I m n Q e env' h := by rw [he]
@[congr] theorem meetK_congr {R : Env → Heap → Prop} {e : SE} (he : env = env') : meetK R Q e env h = meetK R Q e env' h := by rw [he]
@[congr] theorem finK_congr {res : List Ex} {K : Value → Heap → Prop} {e : SE} (he : env = env') : finK N res K e env h = finK N res K e env' h := by rw [he]
@[congr] theorem normK_congr (he : env = env') : normK Q env h = normK Q env' h := by rw [he]
@[congr] theorem stgsK_congr (he : env = env') : stgsK N Γ r K env h = stgsK N Γ r K env' h := by rw [he]
@[congr] theorem dsC_congr {r : DS} {ws : List Heap} (he : env = env') : dsC N Γ r K ws env h = dsC N Γ r K ws env' h := by rw [he]
@[congr] theorem dsK_congr {K : List Heap → Env → Heap → Prop} {fl : Bool} {wx : List Let} {ws : List Heap} {h' : Heap} {e0 : Env} (he : env = env') : dsK N fl wx ws e0 h K env h' = dsK N fl wx ws e0 h K env' h' := by rw [he]
@[congr] theorem effK_congr {d : Option Nat} {v v' : Value} (e : v = v') (e2 : env = env') : effK K d env v h = effK K d env' v' h := by rw [e, e2]
@[congr] theorem letW_congr {o o' : Option Env} (e : o = o') : letW o K h = letW o' K h := by rw [e]
@[congr] theorem letE_congr {o o' : Option Env} (e : o = o') : letE N Γ x o env h K = letE N Γ x o' env h K := by rw [e]
@[congr] theorem pnewW_congr {o o' : Option UV} (e : o = o') : pnewW i o env h K = pnewW i o' env h K := by rw [e]
@[congr] theorem pstW_congr {o o' : Option UV} (e : o = o') : pstW i o env h K = pstW i o' env h K := by rw [e]
@[congr] theorem argsW_congr {f : Ef} {o o' : Option (List Value)} {K : Value → Heap → Prop} (e : o = o') : argsW N Γ f o h K = argsW N Γ f o' h K := by rw [e]
@[congr] theorem efW_congr {f : Ef} {o o' : List Value} {K : Value → Heap → Prop} (e : o = o') : efW N Γ f o h K = efW N Γ f o' h K := by rw [e]
@[congr] theorem guardW_congr {o o' : Option Bool} {f : Ef} {args : List Ex} {d : Option Nat} (e : o = o') : guardW N Γ o f args d env E h K = guardW N Γ o' f args d env E h K := by rw [e]
@[congr] theorem condW_congr {o o' : Option UV} {a b : St} (e : o = o') : condW N Γ o a b Q env h = condW N Γ o' a b Q env h := by rw [e]
@[congr] theorem valsW_congr {o o' : Option (List Value)} {K : Value → Heap → Prop} (e : o = o') : valsW o K h = valsW o' K h := by rw [e]
@[congr] theorem letG_congr {g g' : Option Bool} {e : Ex} (he : g = g') : letG N g env h i e l E = letG N g' env h i e l E := by rw [he]
@[congr] theorem letV_congr {o o' : Option UV} (he : o = o') : letV N o env h i l E = letV N o' env h i l E := by rw [he]
@[congr] theorem gsS_congr {o o' : Option UV} {w : Bool} {r : List (Ex × Bool)} (he : o = o') : gsS N o w env h r = gsS N o' w env h r := by rw [he]
@[congr] theorem u1_congr {o : O1} {a a' : Option UV} (he : a = a') : u1 N env h o a = u1 N env h o a' := by rw [he]
@[congr] theorem u2_congr {o : O2} {a a' b b' : Option UV} (he : a = a') (hb : b = b') : u2 h o a b = u2 h o a' b' := by rw [he, hb]
@[congr] theorem u3_congr {o : O3} {a a' b b' c c' : Option UV} (he : a = a') (hb : b = b') (hc : c = c') : u3 o a b c = u3 o a' b' c' := by rw [he, hb, hc]
@[congr] theorem o1V_congr {o : O1} {a a' : UV} (he : a = a') : o1V N env h o a = o1V N env h o a' := by rw [he]
@[congr] theorem o2V_congr {o : O2} {a a' b b' : UV} (he : a = a') (hb : b = b') : o2V h o a b = o2V h o a' b' := by rw [he, hb]
@[congr] theorem o3V_congr {o : O3} {a a' b b' c c' : UV} (he : a = a') (hb : b = b') (hc : c = c') : o3V o a b c = o3V o a' b' c' := by rw [he, hb, hc]
end
theorem PS :
    (∀ (N : Num) (Γ : Ctx) Q env h, SW N Γ .skip Q env h = Q .normal env h) ∧
    (∀ (N : Num) (Γ : Ctx) Q env h, SW N Γ .ret Q env h = Q .ret env h) ∧
    (∀ (N : Num) (Γ : Ctx) i Q env h, SW N Γ (.exit i) Q env h = Q (.exit i) env h) ∧
    (∀ (N : Num) (Γ : Ctx) a b Q env h, SW N Γ (.seq a b) Q env h = SW N Γ a (seqK N Γ b Q) env h) ∧
    (∀ (N : Num) (Γ : Ctx) i s Q env h, SW N Γ (.block i s) Q env h = SW N Γ s (blkK i Q) env h) ∧
    (∀ (N : Num) (Γ : Ctx) l Q env h, SW N Γ (.reg l) Q env h = stgsW N Γ l env h (normK Q)) ∧
    (∀ (N : Num) (Γ : Ctx) d Q env h, SW N Γ (.dreg d) Q env h = dsW N Γ d [] env h (normK Q)) ∧
    (∀ (N : Num) (Γ : Ctx) c a b Q env h, SW N Γ (.cond c a b) Q env h = condW N Γ (ev N env h c) a b Q env h) ∧
    (∀ (N : Num) (Γ : Ctx) a b Q env h, condW N Γ (some (.v (.bool true))) a b Q env h = SW N Γ a Q env h) ∧
    (∀ (N : Num) (Γ : Ctx) a b Q env h, condW N Γ (some (.v (.bool false))) a b Q env h = SW N Γ b Q env h) ∧
    (∀ (N : Num) (Γ : Ctx) env h K, stgsW N Γ [] env h K = K env h) ∧
    (∀ (N : Num) (Γ : Ctx) l r env h K, stgsW N Γ (⟨l, none⟩ :: r) env h K = letW (putLets N env h l env) (stgsK N Γ r K) h) ∧
    (∀ (N : Num) (Γ : Ctx) l x r env h K, stgsW N Γ (⟨l, some x⟩ :: r) env h K = letE N Γ x (putLets N env h l env) env h (stgsK N Γ r K)) ∧
    (∀ (N : Num) (Γ : Ctx) l env h K, stgW N Γ ⟨l, none⟩ env h K = letW (putLets N env h l env) K h) ∧
    (∀ (N : Num) (Γ : Ctx) l x env h K, stgW N Γ ⟨l, some x⟩ env h K = letE N Γ x (putLets N env h l env) env h K) ∧
    (∀ e K h, letW (some e) K h = K e h) ∧
    (∀ (N : Num) (Γ : Ctx) x e env h K, letE N Γ x (some e) env h K = eiW N Γ x env e h K) ∧
    (∀ (N : Num) (Γ : Ctx) i e env0 env1 h K, eiW N Γ (.pnew i e) env0 env1 h K = pnewW i (ev N env0 h e) env1 h K) ∧
    (∀ (N : Num) (Γ : Ctx) i e env0 env1 h K, eiW N Γ (.pst i e) env0 env1 h K = pstW i (ev N env0 h e) env1 h K) ∧
    (∀ (N : Num) (Γ : Ctx) f args d env0 env1 h K, eiW N Γ (.ef [] f args d) env0 env1 h K = argsW N Γ f (evVals N env0 h args) h (effK K d env1)) ∧
    (∀ (N : Num) (Γ : Ctx) g gs f args d env0 env1 h K, eiW N Γ (.ef (g :: gs) f args d) env0 env1 h K = guardW N Γ (evGs N env0 h (g :: gs)) f args d env0 env1 h K) ∧
    (∀ (N : Num) (Γ : Ctx) f args d env0 env1 h K, guardW N Γ (some true) f args d env0 env1 h K = argsW N Γ f (evVals N env0 h args) h (effK K d env1)) ∧
    (∀ (N : Num) (Γ : Ctx) f args d env0 env1 h K, guardW N Γ (some false) f args d env0 env1 h K = K (putD env1 d undef) h) ∧
    (∀ i x env1 h K, pnewW i (some (.v x)) env1 h K = K (env1.put i (.agg x.cells)) h) ∧
    (∀ i x env1 h K, pstW i (some (.v x)) env1 h K = K (env1.put i x) h) ∧
    (∀ (N : Num) (Γ : Ctx) f us h K, argsW N Γ f (some us) h K = efW N Γ f us h K) ∧
    (∀ (N : Num) (Γ : Ctx) s ws env h K, dsW N Γ (.done s) ws env h K = stgW N Γ s env h K) ∧
    (∀ (N : Num) (Γ : Ctx) fl wx s r ws env h K, dsW N Γ (.eff fl wx s r) ws env h K = stgW N Γ s env h (dsK N fl wx ws env h (dsC N Γ r K))) ∧
    (∀ (N : Num) (Γ : Ctx) fl wx s r fl' wx' s' r' ws env h K, dsW N Γ (.alt fl wx s r fl' wx' s' r') ws env h K = altW N Γ (.alt fl wx s r fl' wx' s' r') ws env h K) ∧
    (∀ (N : Num) (ws : List Heap) (env : Env) (h : Heap) (K : List Heap → Env → Heap → Prop) env' h', dsK N false [] ws env h K env' h' = K [] env' h') ∧
    (∀ (N : Num) (ws : List Heap) (env : Env) (h : Heap) (K : List Heap → Env → Heap → Prop) env' h', dsK N true [] ws env h K env' h' = leW ws h' (K ws env' h')) ∧
    (∀ (N : Num) (Γ : Ctx) r ws K env h, dsC N Γ r K ws env h = dsW N Γ r ws env h K) ∧
    (∀ Q env h, normK Q env h = Q .normal env h) ∧
    (∀ (N : Num) (Γ : Ctx) r K env h, stgsK N Γ r K env h = stgsW N Γ r env h K) ∧
    (∀ K d env v h, effK K d env v h = K (putD env d v) h) ∧
    (∀ env i v, putD env (some i) v = env.put i v) ∧
    (∀ env v, putD env none v = env) ∧
    (∀ (N : Num) (Γ : Ctx) b Q env h, seqK N Γ b Q .normal env h = SW N Γ b Q env h) ∧
    (∀ (N : Num) (Γ : Ctx) b Q i env h, seqK N Γ b Q (.exit i) env h = Q (.exit i) env h) ∧
    (∀ (N : Num) (Γ : Ctx) b Q env h, seqK N Γ b Q .ret env h = Q .ret env h) ∧
    (∀ i Q env h, blkK i Q .normal env h = Q .normal env h) ∧
    (∀ i Q env h, blkK i Q .ret env h = Q .ret env h) ∧
    (∀ i j (Q : SE → Env → Heap → Prop) env h, blkK i Q (.exit j) env h = if j = i then Q .normal env h else Q (.exit j) env h) ∧
    (∀ (σ : Type) (E : σ → Env) (I : σ → Heap → Prop) m n Q i env h, loopK E I m n Q (.exit i) env h = Q (.exit i) env h) ∧
    (∀ (σ : Type) (E : σ → Env) (I : σ → Heap → Prop) m n Q env h, loopK E I m n Q .ret env h = Q .ret env h) ∧
    (∀ R Q i env h, meetK R Q (.exit i) env h = Q (.exit i) env h) ∧
    (∀ R Q env h, meetK R Q .ret env h = Q .ret env h) ∧
    (∀ (N : Num) res K env h, finK N res K .normal env h = valsW (evVals N env h res) K h) ∧
    (∀ (N : Num) res K env h, finK N res K .ret env h = valsW (evVals N env h res) K h) ∧
    (∀ vs K h, valsW (some vs) K h = K (tup vs) h) ∧
    (∀ v, tup [v] = v) ∧
    (tup [] = .tuple #[]) ∧
    (∀ a b, tup [a, b] = .tuple #[a, b]) ∧
    (∀ a b c, tup [a, b, c] = .tuple #[a, b, c]) ∧
    (∀ a b c d, tup [a, b, c, d] = .tuple #[a, b, c, d]) := by
  refine ⟨?_, ?_, ?_, ?_, ?_, ?_, ?_, ?_, ?_, ?_, ?_, ?_, ?_, ?_, ?_, ?_, ?_, ?_, ?_, ?_, ?_, ?_, ?_, ?_, ?_, ?_, ?_, ?_, ?_, ?_, ?_, ?_, ?_, ?_, ?_, ?_, ?_, ?_, ?_, ?_, ?_, ?_, ?_, ?_, ?_, ?_, ?_, ?_, ?_, ?_, ?_, ?_, ?_, ?_, ?_⟩
  case refine_8 =>
    intro N Γ c a b Q env h
    simp only [SW, condW, eq_iff_iff]
    constructor
    · rintro ⟨t, h1, h2, h3⟩; rw [h1]; cases t <;> simp_all
    · split
      · rename_i h1; intro hx; exact ⟨true, h1, fun _ => hx, (by simp)⟩
      · rename_i h1; intro hx; exact ⟨false, h1, (by simp), fun _ => hx⟩
      · exact False.elim
  case refine_12 =>
    intro N Γ l r env h K
    simp only [stgsW, stgW, letW, eq_iff_iff]
    constructor
    · rintro ⟨e, h1, h2⟩; rw [h1]; exact h2
    · split
      · rename_i h1; intro hx; exact ⟨_, h1, hx⟩
      · exact False.elim
  case refine_13 =>
    intro N Γ l x r env h K
    simp only [stgsW, stgW, letE, eq_iff_iff]
    constructor
    · rintro ⟨e, h1, h2⟩; rw [h1]; exact h2
    · split
      · rename_i h1; intro hx; exact ⟨_, h1, hx⟩
      · exact False.elim
  case refine_14 =>
    intro N Γ l env h K
    simp only [stgW, letW, eq_iff_iff]
    constructor
    · rintro ⟨e, h1, h2⟩; rw [h1]; exact h2
    · split
      · rename_i h1; intro hx; exact ⟨_, h1, hx⟩
      · exact False.elim
  case refine_15 =>
    intro N Γ l x env h K
    simp only [stgW, letE, eq_iff_iff]
    constructor
    · rintro ⟨e, h1, h2⟩; rw [h1]; exact h2
    · split
      · rename_i h1; intro hx; exact ⟨_, h1, hx⟩
      · exact False.elim
  case refine_18 =>
    intro N Γ i e env0 env1 h K
    simp only [eiW, pnewW, eq_iff_iff]
    constructor
    · rintro ⟨v, h1, h2⟩; rw [h1]; exact h2
    · split
      · rename_i h1; intro hx; exact ⟨_, h1, hx⟩
      · exact False.elim
  case refine_19 =>
    intro N Γ i e env0 env1 h K
    simp only [eiW, pstW, eq_iff_iff]
    constructor
    · rintro ⟨v, h1, h2⟩; rw [h1]; exact h2
    · split
      · rename_i h1; intro hx; exact ⟨_, h1, hx⟩
      · exact False.elim
  case refine_20 =>
    intro N Γ f args d env0 env1 h K
    simp only [eiW, argsW, evGs, eq_iff_iff]
    constructor
    · rintro (⟨_, us, h1, h2⟩ | ⟨h1, _⟩)
      · rw [h1]; exact h2
      · cases h1
    · split
      · rename_i h1; intro hx; exact .inl ⟨by trivial, _, h1, hx⟩
      · exact False.elim
  case refine_21 =>
    intro N Γ g gs f args d env0 env1 h K
    simp only [eiW, argsW, guardW, eq_iff_iff]
    constructor
    · rintro (⟨h0, us, h1, h2⟩ | ⟨h1, h2⟩)
      · rw [h0, h1]; exact h2
      · rw [h1]; exact h2
    · split
      · rename_i h0
        rw [h0]
        split
        · rename_i h1; intro hx; exact .inl ⟨rfl, _, h1, hx⟩
        · exact False.elim
      · rename_i h0; intro hx; exact .inr ⟨h0, hx⟩
      · exact False.elim
  case refine_30 => intro N ws env h K env' h'; simp [dsK]
  case refine_31 => intro N ws env h K env' h'; simp [dsK, leW]
  case refine_48 =>
    intro N res K env h
    simp only [finK, valsW, eq_iff_iff]
    constructor
    · rintro ⟨vs, h1, h2⟩; rw [h1]; exact h2
    · split
      · rename_i h1; intro hx; exact ⟨_, h1, hx⟩
      · exact False.elim
  case refine_49 =>
    intro N res K env h
    simp only [finK, valsW, eq_iff_iff]
    constructor
    · rintro ⟨vs, h1, h2⟩; rw [h1]; exact h2
    · split
      · rename_i h1; intro hx; exact ⟨_, h1, hx⟩
      · exact False.elim
  all_goals (intros; rfl)
end Go.Cw
namespace Go.Cw
open Go
def str (l : List UInt8) : ByteArray := ⟨l.toArray⟩
theorem str_of (s : ByteArray) : str s.data.toList = s := rfl
theorem str_size (l : List UInt8) : (str l).size = l.length := rfl
theorem str_append (a b : List UInt8) : str a ++ str b = str (a ++ b) := by
  apply ByteArray.ext
  simp [str]
theorem ba_toList_loop (s : ByteArray) : ∀ (n i : Nat) (r : List UInt8), n + i = s.size → ByteArray.toList.loop s i r = r.reverse ++ s.data.toList.drop i := by
  intro n
  induction n with
  | zero =>
    intro i r h
    rw [ByteArray.toList.loop]
    have : ¬ i < s.size := by omega
    rw [if_neg this, List.drop_of_length_le (by show s.data.toList.length ≤ i; simp; show s.data.size ≤ i; exact (show s.size ≤ i by omega))]
    simp
  | succ n ih =>
    intro i r h
    rw [ByteArray.toList.loop]
    have hlt : i < s.size := by omega
    have hlt' : i < s.data.toList.length := by simp; exact hlt
    rw [if_pos hlt, ih (i + 1) _ (by omega), List.drop_eq_getElem_cons hlt']
    have : s.get! i = s.data.toList[i] := by
      have hlt2 : i < s.data.size := hlt
      show s.data[i]! = _
      rw [getElem!_pos s.data i hlt2]
      simp
    rw [this]; simp
theorem ba_toList (s : ByteArray) : s.toList = s.data.toList := by
  rw [ByteArray.toList, ba_toList_loop s s.size 0 [] (by omega)]; simp
theorem str_toList (l : List UInt8) : (str l).toList = l := by rw [ba_toList]; rfl
theorem str_get (l : List UInt8) (i : Nat) : (str l).data.getD i 0 = l.getD i 0 := by
  simp [str, Array.getD, List.getD_eq_getElem?_getD]
  split <;> simp_all
theorem str_extract (l : List UInt8) (i j : Nat) : (str l).extract i j = str ((l.take j).drop i) := by
  apply ByteArray.ext
  simp [str, List.extract, List.drop_take]
def ldP (o : Option Value) (off : Nat) : Option UV := match o with
  | some (.agg c) => (c[off]?).map .v
  | _ => none
def ldnP (o : Option Value) (off n : Nat) : Option UV := match o with
  | some (.agg c) => if off + n ≤ c.size then some (.v (.agg (c.extract off (off + n)))) else none
  | _ => none
def agg (l : List Value) : Value := .agg l.toArray
theorem putLets_g (N : Num) (env : Env) (h : Heap) (g : Ex × Bool) (gs : List (Ex × Bool)) (i : Nat) (e : Ex) (r : List Let) (E : Env) : putLets N env h (⟨g :: gs, i, e⟩ :: r) E = letG N (evGs N env h (g :: gs)) env h i e r E := by
  cases hg : evGs N env h (g :: gs) with
  | none => simp only [putLets, hg, letG]
  | some b =>
    have e0 : evGs N env h [] = some true := rfl
    cases b <;> simp only [putLets, hg, letG, e0]
section
variable (N : Num) (env : Env) (h : Heap)
theorem P1 :
    (∀ (N : Num) (env : Env) (h : Heap) i, ev N env h (.var i) = (env.get i).map .v) ∧
    (∀ (N : Num) (env : Env) (h : Heap) i, ev N env h (.cnt i) = (env.get i).map .v) ∧
    (∀ (N : Num) (env : Env) (h : Heap) i, ev N env h (.pad i) = (env.get i).map fun _ => .p i 0) ∧
    (∀ (N : Num) (env : Env) (h : Heap) x, ev N env h (.con x) = some (.v x)) ∧
    (∀ (N : Num) (env : Env) (h : Heap) f, ev N env h (.mkf f) = some (.v (.func (.func (N.fid f)) #[] #[]))) ∧
    (∀ (N : Num) (env : Env) (h : Heap) o a, ev N env h (.o1 o a) = u1 N env h o (ev N env h a)) ∧
    (∀ (N : Num) (env : Env) (h : Heap) o a b, ev N env h (.o2 o a b) = u2 h o (ev N env h a) (ev N env h b)) ∧
    (∀ (N : Num) (env : Env) (h : Heap) o a b c, ev N env h (.o3 o a b c) = u3 o (ev N env h a) (ev N env h b) (ev N env h c)) ∧
    (∀ (N : Num) (env : Env) (h : Heap) c a b, ev N env h (.pick c a b) = pickU (ev N env h c) (ev N env h a) (ev N env h b)) ∧
    (∀ (N : Num) (env : Env) (h : Heap) base i n a v, ev N env h (.upd base i n a v) = updU i n (ev N env h base) (ev N env h a) (ev N env h v)) ∧
    (∀ (N : Num) (env : Env) (h : Heap) o a, u1 N env h o (some a) = o1V N env h o a) ∧
    (∀ (h : Heap) o a b, u2 h o (some a) (some b) = o2V h o a b) ∧
    (∀ o a b c, u3 o (some a) (some b) (some c) = o3V o a b c) ∧
    (∀ a b, pickU (some (.v (.bool true))) a b = a) ∧
    (∀ a b, pickU (some (.v (.bool false))) a b = b) ∧
    (∀ (N : Num) (env : Env) (h : Heap) E, putLets N env h [] E = some E) ∧
    (∀ (N : Num) (env : Env) (h : Heap) i e r E, putLets N env h (⟨[], i, e⟩ :: r) E = letV N (ev N env h e) env h i r E) ∧
    (∀ (N : Num) (env : Env) (h : Heap) g gs i e r E, putLets N env h (⟨g :: gs, i, e⟩ :: r) E = letG N (evGs N env h (g :: gs)) env h i e r E) ∧
    (∀ (N : Num) (env : Env) (h : Heap) x i r E, letV N (some (.v x)) env h i r E = putLets N env h r (E.put i x)) ∧
    (∀ (N : Num) (env : Env) (h : Heap) i e r E, letG N (some true) env h i e r E = putLets N env h (⟨[], i, e⟩ :: r) E) ∧
    (∀ (N : Num) (env : Env) (h : Heap) i e r E, letG N (some false) env h i e r E = putLets N env h r (E.put i undef)) ∧
    (∀ (N : Num) (env : Env) (h : Heap), evGs N env h [] = some true) ∧
    (∀ (N : Num) (env : Env) (h : Heap) e w r, evGs N env h ((e, w) :: r) = gsS N (ev N env h e) w env h r) ∧
    (∀ (N : Num) (env : Env) (h : Heap) r, gsS N (some (.v (.bool true))) true env h r = evGs N env h r) ∧
    (∀ (N : Num) (env : Env) (h : Heap) r, gsS N (some (.v (.bool false))) false env h r = evGs N env h r) ∧
    (∀ (N : Num) (env : Env) (h : Heap) r, gsS N (some (.v (.bool true))) false env h r = some false) ∧
    (∀ (N : Num) (env : Env) (h : Heap) r, gsS N (some (.v (.bool false))) true env h r = some false) ∧
    (∀ (N : Num) (env : Env) (h : Heap) w r, gsS N (some (.v undef)) w env h r = some false) ∧
    (∀ (N : Num) (env : Env) (h : Heap), evVals N env h [] = some []) ∧
    (∀ (N : Num) (env : Env) (h : Heap) e r, evVals N env h (e :: r) = consV (ev N env h e) (evVals N env h r)) ∧
    (∀ x xs, consV (some (.v x)) (some xs) = some (x :: xs)) ∧
    (∀ v (e : Env), Env.get (v :: e) 0 = v) ∧
    (∀ v (e : Env) i, Env.get (v :: e) (i + 1) = Env.get e i) ∧
    (∀ v (e : Env) x, Env.put (v :: e) 0 x = some x :: e) ∧
    (∀ v (e : Env) i x, Env.put (v :: e) (i + 1) x = v :: Env.put e i x) := by
  and_intros
  all_goals (intros; first | rfl | exact putLets_g .. | (simp only [evGs]; rfl) | (simp only [evGs, gsS]; split <;> simp_all; done) | (simp only [evVals, consV]; done) | (simp [gsS, Env.get]; done))
theorem P2 :
    (∀ (N : Num) (env : Env) (h : Heap) s, o1V N env h .slen (.v (.string s)) = some (.v (.int .i64 s.size))) ∧
    (∀ (N : Num) (env : Env) (h : Heap) a n c, o1V N env h .llen (.v (.slice a n c)) = some (.v (.int .i64 n))) ∧
    (∀ (N : Num) (env : Env) (h : Heap) d a, o1V N env h (.fadr d) (.v (.pointer (some a))) = some (.v (.pointer (some (a.add d))))) ∧
    (∀ (N : Num) (env : Env) (h : Heap) d i off, o1V N env h (.fadr d) (.p i off) = some (.p i (off + d))) ∧
    (∀ (N : Num) (env : Env) (h : Heap) a, o1V N env h .ld (.v (.pointer (some a))) = (h.cell a).map .v) ∧
    (∀ (N : Num) (env : Env) (h : Heap) n a, o1V N env h (.ldn n) (.v (.pointer (some a))) = (h.row a n).map fun c => .v (.agg c)) ∧
    (∀ (N : Num) (env : Env) (h : Heap) i off, o1V N env h .ld (.p i off) = ldP (env.get i) off) ∧
    (∀ (N : Num) (env : Env) (h : Heap) n i off, o1V N env h (.ldn n) (.p i off) = ldnP (env.get i) off n) ∧
    (∀ (c : Array Value) off, ldP (some (.agg c)) off = (c[off]?).map .v) ∧
    (∀ (c : Array Value) off n, ldnP (some (.agg c)) off n = if off + n ≤ c.size then some (.v (.agg (c.extract off (off + n)))) else none) ∧
    (∀ (N : Num) (env : Env) (h : Heap) a, o1V N env h .nilck (.v (.pointer (some a))) = some (.v (.pointer (some a)))) ∧
    (∀ (N : Num) (env : Env) (h : Heap) i off, o1V N env h .nilck (.p i off) = some (.p i off)) ∧
    (∀ (N : Num) (env : Env) (h : Heap) f a b, o1V N env h .nilck (.v (.func (.func f) a b)) = some (.v (.func (.func f) a b))) ∧
    (∀ (N : Num) (env : Env) (h : Heap) b, o1V N env h .not (.v (.bool b)) = some (.v (.bool (!b)))) ∧
    (∀ (N : Num) (env : Env) (h : Heap) k n, o1V N env h .neg (.v (.int k n)) = some (.v (.int k (k.wrap (0 - n))))) ∧
    (∀ (N : Num) (env : Env) (h : Heap) k k' n, o1V N env h (.conv k) (.v (.int k' n)) = some (.v (.int k (k.wrap n)))) ∧
    (∀ (N : Num) (env : Env) (h : Heap) k (l : List Value), o1V N env h (.ext k) (.v (.tuple l.toArray)) = (l[k]?).map .v) ∧
    (∀ (N : Num) (env : Env) (h : Heap) k (l : List Value), o1V N env h (.fld k) (.v (.agg l.toArray)) = (l[k]?).map .v) ∧
    (∀ (N : Num) (env : Env) (h : Heap) k n (l : List Value), o1V N env h (.fldn k n) (.v (.agg l.toArray)) = some (.v (.agg ((l.drop k).take n).toArray))) ∧
    (∀ (N : Num) (env : Env) (h : Heap) t x, o1V N env h (.iface t) (.v x) = some (.v (.iface (N.tid t) x))) ∧
    (∀ (N : Num) (env : Env) (h : Heap) t z u y, o1V N env h (.tas t z) (.v (.iface u y)) = if u = N.tid t then some (.v (.tuple #[y, .bool true])) else some (.v (.tuple #[z, .bool false]))) ∧
    (∀ (N : Num) (env : Env) (h : Heap) t z, o1V N env h (.tas t z) (.v .nilIface) = some (.v (.tuple #[z, .bool false]))) ∧
    (∀ (N : Num) (env : Env) (h : Heap) k n, o1V N env h .inv (.v (.int k n)) = some (.v (.int k (k.wrap (BitVec.ofInt k.bits (if k.signed then -1 else k.max) ^^^ BitVec.ofInt k.bits n).toNat)))) := by
  and_intros
  all_goals (intros; first | rfl | (simp [o1V, List.extract]; done))
theorem P3 :
    (∀ (h : Heap) op x y, o2V h (.bin op) (.v x) (.v y) = (binV op x y).map .v) ∧
    (∀ (h : Heap) size a (len : Nat) cap k n, 0 ≤ n → n < (len : Int) → o2V h (.iadr size) (.v (.slice (some a) len cap)) (.v (.int k n)) = some (.v (.pointer (some (a.add (n.toNat * size)))))) ∧
    (∀ (h : Heap) (len : Nat) size a k n, 0 ≤ n → n < (len : Int) → o2V h (.aadr len size) (.v (.pointer (some a))) (.v (.int k n)) = some (.v (.pointer (some (a.add (n.toNat * size)))))) ∧
    (∀ (h : Heap) (len : Nat) size i off k n, 0 ≤ n → n < (len : Int) → o2V h (.aadr len size) (.p i off) (.v (.int k n)) = some (.p i (off + n.toNat * size))) ∧
    (∀ (h : Heap) l k n, 0 ≤ n → n < (l.length : Int) → o2V h .sidx (.v (.string (str l))) (.v (.int k n)) = some (.v (.int .u8 (l.getD n.toNat 0).toNat))) ∧
    (∀ (h : Heap) (len : Nat) (c : Array Value) k n, 0 ≤ n → n < (len : Int) → o2V h (.vidx len) (.v (.agg c)) (.v (.int k n)) = (c[n.toNat]?).map .v) ∧
    (∀ (h : Heap) (len : Nat) size (c : Array Value) k n, 0 ≤ n → n < (len : Int) → o2V h (.vidxn len size) (.v (.agg c)) (.v (.int k n)) = some (.v (.agg (c.extract (n.toNat * size) (n.toNat * size + size))))) ∧
    (∀ (h : Heap) k a b k', o2V h .max (.v (.int k a)) (.v (.int k' b)) = some (.v (.int k (max a b)))) ∧
    (∀ (h : Heap) k a b k', o2V h .min (.v (.int k a)) (.v (.int k' b)) = some (.v (.int k (min a b)))) ∧
    (∀ (h : Heap) off n (c : Array Value) y, o2V h (.bput off n) (.v (.agg c)) (.v y) = if y.cells.size = n ∧ off + n ≤ c.size then some (.v (.agg (putL c off y.cells.toList))) else none) ∧
    (∀ (h : Heap) fn first cs y, o2V h .capp (.v (.func fn first cs)) (.v y) = some (.v (.func fn first (cs.push y)))) ∧
    (∀ l k k' lo hi, 0 ≤ lo → lo ≤ hi → hi ≤ (l.length : Int) → o3V .ssl (.v (.string (str l))) (.v (.int k lo)) (.v (.int k' hi)) = some (.v (.string (str ((l.take hi.toNat).drop lo.toNat))))) := by
  have ib : ∀ (n : Int) (m : Nat), 0 ≤ n → n < (m : Int) → inBounds n m = true := by intro n m h1 h2; simp [inBounds, h1, h2]
  and_intros
  all_goals first
    | (intros; rfl)
    | (intro h size a len cap k n h1 h2; simp only [o2V, ib n len h1 h2, if_true]; done)
    | (intro h len size a k n h1 h2; simp only [o2V, ib n len h1 h2, if_true]; done)
    | (intro h len size i off k n h1 h2; simp only [o2V, ib n len h1 h2, if_true]; done)
    | (intro h len c k n h1 h2; simp only [o2V, ib n len h1 h2, if_true]; done)
    | (intro h len size c k n h1 h2; simp only [o2V, ib n len h1 h2, if_true]; done)
    | (intro h l k n h1 h2; have := ib n l.length h1 h2; simp only [o2V, str_size, this, if_true, str_get]; done)
    | (intro h k a b k'; simp only [o2V]; congr 3; rw [Int.max_def]; split <;> split <;> omega)
    | (intro h k a b k'; simp only [o2V]; congr 3; rw [Int.min_def]; split <;> split <;> omega)
    | (intro l k k' lo hi h1 h2 h3; simp only [o3V, str_size, h1, h2, h3, and_self, if_true, str_extract]; done)
theorem P4 : (∀ k a b, binV .add (.int k a) (.int k b) = some (.int k (k.wrap (a + b)))) ∧ (∀ k a b, binV .sub (.int k a) (.int k b) = some (.int k (k.wrap (a - b)))) ∧ (∀ k a b, binV .mul (.int k a) (.int k b) = some (.int k (k.wrap (a * b)))) ∧
    (∀ k a b, b ≠ 0 → binV .quo (.int k a) (.int k b) = some (.int k (k.wrap (a.tdiv b)))) ∧ (∀ k a b, b ≠ 0 → binV .rem (.int k a) (.int k b) = some (.int k (a.tmod b))) ∧
    (∀ k a b, binV .eql (.int k a) (.int k b) = some (.bool (decide (a = b)))) ∧ (∀ k a b, binV .neq (.int k a) (.int k b) = some (.bool (decide (a ≠ b)))) ∧
    (∀ k a b, binV .lss (.int k a) (.int k b) = some (.bool (decide (a < b)))) ∧ (∀ k a b, binV .leq (.int k a) (.int k b) = some (.bool (decide (a ≤ b)))) ∧
    (∀ k a b, binV .gtr (.int k a) (.int k b) = some (.bool (decide (b < a)))) ∧ (∀ k a b, binV .geq (.int k a) (.int k b) = some (.bool (decide (b ≤ a)))) ∧
    (∀ a b, a.length + b.length ≤ 9223372036854775807 → binV .add (.string (str a)) (.string (str b)) = some (.string (str (a ++ b)))) ∧
    (∀ a b, binV .eql (.string (str a)) (.string (str b)) = some (.bool (decide (a = b)))) ∧ (∀ a b, binV .neq (.string (str a)) (.string (str b)) = some (.bool (decide (a ≠ b)))) ∧
    (∀ a b, binV .lss (.string (str a)) (.string (str b)) = some (.bool (Op.bytesLess a b))) ∧
    (∀ p q : Bool, pickU (some (.v (.bool p))) (some (.v (.bool true))) (some (.v (.bool q))) = some (.v (.bool (p || q)))) ∧
    (∀ p q : Bool, pickU (some (.v (.bool p))) (some (.v (.bool q))) (some (.v (.bool false))) = some (.v (.bool (p && q)))) ∧
    (∀ (p q : Prop) [Decidable p] [Decidable q], (decide p || decide q) = decide (p ∨ q)) ∧ (∀ (p q : Prop) [Decidable p] [Decidable q], (decide p && decide q) = decide (p ∧ q)) ∧
    (∀ (p : Prop) [Decidable p], (!decide p) = decide (¬ p)) ∧ (∀ b : Bool, (false || b) = b) ∧ (∀ b : Bool, (b || false) = b) ∧ (∀ b : Bool, (true || b) = true) ∧ (∀ b : Bool, (b || true) = true) ∧ (∀ b : Bool, (false && b) = false) ∧ (∀ b : Bool, (b && false) = false) ∧ (∀ b : Bool, (true && b) = b) ∧ (∀ b : Bool, (b && true) = b) ∧
    (∀ a off, putL a off [] = a) ∧ (∀ a off v r, putL a off (v :: r) = putL (a.setIfInBounds off v) (off + 1) r) := by
  and_intros
  all_goals first
    | (intros; rfl)
    | (intro k a b; simp [binV, intV]; done)
    | (intro k a b; simp only [binV, intV, if_true]; rfl)
    | (intro k a b; simp only [binV, intV, if_true]; congr 2; rw [Bool.eq_iff_iff]; simp; done)
    | (intro k a b; simp only [binV, intV, if_true, bne]; congr 2; rw [Bool.eq_iff_iff]; simp; done)
    | (intro k a b h1; simp only [binV, intV, h1, if_true, if_false]; done)
    | (intro a b h1; simp only [binV, strV, str_size, h1, if_true, str_append]; done)
    | (intro a b; simp [binV, strV, str_toList]; done)
    | (intro a b; simp only [binV, strV, str_toList]; congr 2; rw [Bool.eq_iff_iff]; simp; done)
    | (intro p q; cases p <;> rfl)
    | (intro b; cases b <;> rfl)
    | (intro p q _ _; simp; done)
    | (intro p _; simp; done)
theorem P7 : (∀ h, o2V h (.eqv .iface true) (.v .nilIface) (.v .nilIface) = some (.v (.bool false))) ∧ (∀ h, o2V h (.eqv .iface false) (.v .nilIface) (.v .nilIface) = some (.v (.bool true))) ∧
    (∀ h t x, o2V h (.eqv .iface true) (.v (.iface t x)) (.v .nilIface) = some (.v (.bool true))) ∧ (∀ h t x, o2V h (.eqv .iface false) (.v (.iface t x)) (.v .nilIface) = some (.v (.bool false))) ∧
    (∀ h, o2V h (.eqv .ptr true) (.v (.pointer none)) (.v (.pointer none)) = some (.v (.bool false))) ∧ (∀ h, o2V h (.eqv .ptr false) (.v (.pointer none)) (.v (.pointer none)) = some (.v (.bool true))) ∧
    (∀ h a, o2V h (.eqv .ptr true) (.v (.pointer (some a))) (.v (.pointer none)) = some (.v (.bool true))) ∧ (∀ h a, o2V h (.eqv .ptr false) (.v (.pointer (some a))) (.v (.pointer none)) = some (.v (.bool false))) ∧
    (∀ h, o2V h (.eqv .map true) (.v (.map none)) (.v (.map none)) = some (.v (.bool false))) ∧ (∀ h, o2V h (.eqv .map false) (.v (.map none)) (.v (.map none)) = some (.v (.bool true))) ∧
    (∀ h a, o2V h (.eqv .map true) (.v (.map (some a))) (.v (.map none)) = some (.v (.bool true))) ∧ (∀ h a, o2V h (.eqv .map false) (.v (.map (some a))) (.v (.map none)) = some (.v (.bool false))) ∧
    (∀ h a n c m k, o2V h (.eqv .slice true) (.v (.slice a n c)) (.v (.slice none m k)) = some (.v (.bool a.isSome))) ∧ (∀ h a n c m k, o2V h (.eqv .slice false) (.v (.slice a n c)) (.v (.slice none m k)) = some (.v (.bool a.isNone))) ∧
    (∀ h a b, o2V h (.eqv .bool true) (.v (.bool a)) (.v (.bool b)) = some (.v (.bool (decide (a ≠ b))))) ∧ (∀ h a b, o2V h (.eqv .bool false) (.v (.bool a)) (.v (.bool b)) = some (.v (.bool (decide (a = b))))) := by
  and_intros
  all_goals first
    | (intros; rfl)
    | (intro h a n c m k; cases a <;> rfl)
    | (intro h a b; cases a <;> cases b <;> rfl)
theorem P8 : (∀ c, Value.cells (.agg c) = c) ∧ (∀ k n, Value.cells (.int k n) = #[.int k n]) ∧ (∀ s, Value.cells (.string s) = #[.string s]) ∧ (∀ b, Value.cells (.bool b) = #[.bool b]) ∧ (∀ a, Value.cells (.pointer a) = #[.pointer a]) ∧
    (∀ a n c, Value.cells (.slice a n c) = #[.slice a n c]) ∧ (∀ m, Value.cells (.map m) = #[.map m]) ∧ (Value.cells .nilIface = #[.nilIface]) ∧ (∀ t x, Value.cells (.iface t x) = #[.iface t x]) ∧ (∀ f a c, Value.cells (.func f a c) = #[.func f a c]) ∧
    (∀ k n, one (.int k n) = true) ∧ (∀ s, one (.string s) = true) ∧ (∀ b, one (.bool b) = true) ∧ (∀ a, one (.pointer a) = true) ∧ (∀ a n c, one (.slice a n c) = true) ∧ (∀ m, one (.map m) = true) ∧ (one .nilIface = true) ∧ (∀ t x, one (.iface t x) = true) ∧ (∀ f a c, one (.func f a c) = true) := by
  and_intros
  all_goals (intros; rfl)
theorem w64 {n : Int} (h1 : -9223372036854775808 ≤ n) (h2 : n ≤ 9223372036854775807) : IntKind.i64.wrap n = n := IntWalk.i64_in n ⟨h1, h2⟩
theorem P5 : (∀ (i k : Nat), i + k ≤ 9223372036854775807 → IntKind.i64.wrap ((i : Int) + (k : Int)) = ((i + k : Nat) : Int)) ∧
    (∀ (i k : Nat), k ≤ i → i ≤ 9223372036854775807 → IntKind.i64.wrap ((i : Int) - (k : Int)) = ((i - k : Nat) : Int)) ∧
    (∀ (i : Nat), i ≤ 9223372036854775807 → IntKind.i64.wrap (i : Int) = (i : Int)) ∧
    (∀ (i : Nat), i + 1 ≤ 9223372036854775807 → IntKind.i64.wrap ((i : Int) + 1) = ((i + 1 : Nat) : Int)) ∧
    (∀ (i : Nat), 1 + i ≤ 9223372036854775807 → IntKind.i64.wrap (1 + (i : Int)) = ((1 + i : Nat) : Int)) ∧
    (∀ (i : Nat), 1 ≤ i → i ≤ 9223372036854775807 → IntKind.i64.wrap ((i : Int) - 1) = ((i - 1 : Nat) : Int)) ∧
    (∀ (i : Nat), i * 1 ≤ 9223372036854775807 → IntKind.i64.wrap ((i : Int) * 1) = ((i * 1 : Nat) : Int)) ∧
    (∀ (i : Nat), 1 * i ≤ 9223372036854775807 → IntKind.i64.wrap (1 * (i : Int)) = ((1 * i : Nat) : Int)) ∧
    (∀ (i : Nat), i + 2 ≤ 9223372036854775807 → IntKind.i64.wrap ((i : Int) + 2) = ((i + 2 : Nat) : Int)) ∧
    (∀ (i : Nat), 2 + i ≤ 9223372036854775807 → IntKind.i64.wrap (2 + (i : Int)) = ((2 + i : Nat) : Int)) ∧
    (∀ (i : Nat), 2 ≤ i → i ≤ 9223372036854775807 → IntKind.i64.wrap ((i : Int) - 2) = ((i - 2 : Nat) : Int)) ∧
    (∀ (i : Nat), i * 2 ≤ 9223372036854775807 → IntKind.i64.wrap ((i : Int) * 2) = ((i * 2 : Nat) : Int)) ∧
    (∀ (i : Nat), 2 * i ≤ 9223372036854775807 → IntKind.i64.wrap (2 * (i : Int)) = ((2 * i : Nat) : Int)) ∧
    (∀ (i : Nat), i + 3 ≤ 9223372036854775807 → IntKind.i64.wrap ((i : Int) + 3) = ((i + 3 : Nat) : Int)) ∧
    (∀ (i : Nat), 3 + i ≤ 9223372036854775807 → IntKind.i64.wrap (3 + (i : Int)) = ((3 + i : Nat) : Int)) ∧
    (∀ (i : Nat), 3 ≤ i → i ≤ 9223372036854775807 → IntKind.i64.wrap ((i : Int) - 3) = ((i - 3 : Nat) : Int)) ∧
    (∀ (i : Nat), i * 3 ≤ 9223372036854775807 → IntKind.i64.wrap ((i : Int) * 3) = ((i * 3 : Nat) : Int)) ∧
    (∀ (i : Nat), 3 * i ≤ 9223372036854775807 → IntKind.i64.wrap (3 * (i : Int)) = ((3 * i : Nat) : Int)) ∧
    (∀ (i : Nat), i + 4 ≤ 9223372036854775807 → IntKind.i64.wrap ((i : Int) + 4) = ((i + 4 : Nat) : Int)) ∧
    (∀ (i : Nat), 4 + i ≤ 9223372036854775807 → IntKind.i64.wrap (4 + (i : Int)) = ((4 + i : Nat) : Int)) ∧
    (∀ (i : Nat), 4 ≤ i → i ≤ 9223372036854775807 → IntKind.i64.wrap ((i : Int) - 4) = ((i - 4 : Nat) : Int)) ∧
    (∀ (i : Nat), i * 4 ≤ 9223372036854775807 → IntKind.i64.wrap ((i : Int) * 4) = ((i * 4 : Nat) : Int)) ∧
    (∀ (i : Nat), 4 * i ≤ 9223372036854775807 → IntKind.i64.wrap (4 * (i : Int)) = ((4 * i : Nat) : Int)) ∧
    (∀ (i : Nat), i + 5 ≤ 9223372036854775807 → IntKind.i64.wrap ((i : Int) + 5) = ((i + 5 : Nat) : Int)) ∧
    (∀ (i : Nat), 5 + i ≤ 9223372036854775807 → IntKind.i64.wrap (5 + (i : Int)) = ((5 + i : Nat) : Int)) ∧
    (∀ (i : Nat), 5 ≤ i → i ≤ 9223372036854775807 → IntKind.i64.wrap ((i : Int) - 5) = ((i - 5 : Nat) : Int)) ∧
    (∀ (i : Nat), i * 5 ≤ 9223372036854775807 → IntKind.i64.wrap ((i : Int) * 5) = ((i * 5 : Nat) : Int)) ∧
    (∀ (i : Nat), 5 * i ≤ 9223372036854775807 → IntKind.i64.wrap (5 * (i : Int)) = ((5 * i : Nat) : Int)) ∧
    (∀ (i : Nat), i + 7 ≤ 9223372036854775807 → IntKind.i64.wrap ((i : Int) + 7) = ((i + 7 : Nat) : Int)) ∧
    (∀ (i : Nat), 7 + i ≤ 9223372036854775807 → IntKind.i64.wrap (7 + (i : Int)) = ((7 + i : Nat) : Int)) ∧
    (∀ (i : Nat), 7 ≤ i → i ≤ 9223372036854775807 → IntKind.i64.wrap ((i : Int) - 7) = ((i - 7 : Nat) : Int)) ∧
    (∀ (i : Nat), i * 7 ≤ 9223372036854775807 → IntKind.i64.wrap ((i : Int) * 7) = ((i * 7 : Nat) : Int)) ∧
    (∀ (i : Nat), 7 * i ≤ 9223372036854775807 → IntKind.i64.wrap (7 * (i : Int)) = ((7 * i : Nat) : Int)) ∧
    (∀ (i : Nat), i + 8 ≤ 9223372036854775807 → IntKind.i64.wrap ((i : Int) + 8) = ((i + 8 : Nat) : Int)) ∧
    (∀ (i : Nat), 8 + i ≤ 9223372036854775807 → IntKind.i64.wrap (8 + (i : Int)) = ((8 + i : Nat) : Int)) ∧
    (∀ (i : Nat), 8 ≤ i → i ≤ 9223372036854775807 → IntKind.i64.wrap ((i : Int) - 8) = ((i - 8 : Nat) : Int)) ∧
    (∀ (i : Nat), i * 8 ≤ 9223372036854775807 → IntKind.i64.wrap ((i : Int) * 8) = ((i * 8 : Nat) : Int)) ∧
    (∀ (i : Nat), 8 * i ≤ 9223372036854775807 → IntKind.i64.wrap (8 * (i : Int)) = ((8 * i : Nat) : Int)) ∧
    (∀ (i : Nat), i + 10 ≤ 9223372036854775807 → IntKind.i64.wrap ((i : Int) + 10) = ((i + 10 : Nat) : Int)) ∧
    (∀ (i : Nat), 10 + i ≤ 9223372036854775807 → IntKind.i64.wrap (10 + (i : Int)) = ((10 + i : Nat) : Int)) ∧
    (∀ (i : Nat), 10 ≤ i → i ≤ 9223372036854775807 → IntKind.i64.wrap ((i : Int) - 10) = ((i - 10 : Nat) : Int)) ∧
    (∀ (i : Nat), i * 10 ≤ 9223372036854775807 → IntKind.i64.wrap ((i : Int) * 10) = ((i * 10 : Nat) : Int)) ∧
    (∀ (i : Nat), 10 * i ≤ 9223372036854775807 → IntKind.i64.wrap (10 * (i : Int)) = ((10 * i : Nat) : Int)) ∧
    (∀ (i : Nat), i + 11 ≤ 9223372036854775807 → IntKind.i64.wrap ((i : Int) + 11) = ((i + 11 : Nat) : Int)) ∧
    (∀ (i : Nat), 11 + i ≤ 9223372036854775807 → IntKind.i64.wrap (11 + (i : Int)) = ((11 + i : Nat) : Int)) ∧
    (∀ (i : Nat), 11 ≤ i → i ≤ 9223372036854775807 → IntKind.i64.wrap ((i : Int) - 11) = ((i - 11 : Nat) : Int)) ∧
    (∀ (i : Nat), i * 11 ≤ 9223372036854775807 → IntKind.i64.wrap ((i : Int) * 11) = ((i * 11 : Nat) : Int)) ∧
    (∀ (i : Nat), 11 * i ≤ 9223372036854775807 → IntKind.i64.wrap (11 * (i : Int)) = ((11 * i : Nat) : Int)) ∧
    (∀ (i : Nat), i + 12 ≤ 9223372036854775807 → IntKind.i64.wrap ((i : Int) + 12) = ((i + 12 : Nat) : Int)) ∧
    (∀ (i : Nat), 12 + i ≤ 9223372036854775807 → IntKind.i64.wrap (12 + (i : Int)) = ((12 + i : Nat) : Int)) ∧
    (∀ (i : Nat), 12 ≤ i → i ≤ 9223372036854775807 → IntKind.i64.wrap ((i : Int) - 12) = ((i - 12 : Nat) : Int)) ∧
    (∀ (i : Nat), i * 12 ≤ 9223372036854775807 → IntKind.i64.wrap ((i : Int) * 12) = ((i * 12 : Nat) : Int)) ∧
    (∀ (i : Nat), 12 * i ≤ 9223372036854775807 → IntKind.i64.wrap (12 * (i : Int)) = ((12 * i : Nat) : Int)) ∧
    (∀ (i : Nat), i + 16 ≤ 9223372036854775807 → IntKind.i64.wrap ((i : Int) + 16) = ((i + 16 : Nat) : Int)) ∧
    (∀ (i : Nat), 16 + i ≤ 9223372036854775807 → IntKind.i64.wrap (16 + (i : Int)) = ((16 + i : Nat) : Int)) ∧
    (∀ (i : Nat), 16 ≤ i → i ≤ 9223372036854775807 → IntKind.i64.wrap ((i : Int) - 16) = ((i - 16 : Nat) : Int)) ∧
    (∀ (i : Nat), i * 16 ≤ 9223372036854775807 → IntKind.i64.wrap ((i : Int) * 16) = ((i * 16 : Nat) : Int)) ∧
    (∀ (i : Nat), 16 * i ≤ 9223372036854775807 → IntKind.i64.wrap (16 * (i : Int)) = ((16 * i : Nat) : Int)) := by
  and_intros
  all_goals first | (intros; rw [w64 (by omega) (by omega)]; done) | (intros; rw [w64 (by omega) (by omega)]; first | rfl | omega)
theorem P6 : (∀ {α : Type} (a : α) (l : List α), (a :: l).toArray[0]? = some a) ∧ (∀ {α : Type} (a : α) (l : List α) (i : Nat), (a :: l).toArray[i + 1]? = l.toArray[i]?) ∧
    (∀ {α : Type} (a : α) (l : List α), (a :: l)[0]? = some a) ∧ (∀ {α : Type} (a : α) (l : List α) (i : Nat), (a :: l)[i + 1]? = l[i]?) ∧
    (∀ {α : Type} (l : List α) (i : Nat) (v : α), l.toArray.setIfInBounds i v = (l.set i v).toArray) ∧ (∀ {α : Type} (a : α) (l : List α) (v : α), (a :: l).set 0 v = v :: l) ∧ (∀ {α : Type} (a : α) (l : List α) (i : Nat) (v : α), (a :: l).set (i + 1) v = a :: l.set i v) ∧
    (∀ {α : Type} (l : List α) (a b : Nat), l.toArray.extract a b = ((l.drop a).take (b - a)).toArray) ∧ (∀ {α : Type} (l : List α), l.drop 0 = l) ∧ (∀ {α : Type} (a : α) (l : List α) (i : Nat), (a :: l).drop (i + 1) = l.drop i) ∧
    (∀ {α : Type} (l : List α), l.take 0 = []) ∧ (∀ {α : Type} (a : α) (l : List α) (i : Nat), (a :: l).take (i + 1) = a :: l.take i) ∧ (∀ {α : Type} i, ([] : List α).take i = []) ∧
    (∀ {α : Type} (l : List α), l.toArray.size = l.length) ∧ (∀ {α : Type} (a : α) (l : List α), (a :: l).length = l.length + 1) ∧ (∀ {α : Type}, ([] : List α).length = 0) ∧ (∀ {α : Type} (l : List α), l.toArray.toList = l) := by
  and_intros
  all_goals (intros; first | rfl | (simp; done) | (simp [List.extract]; done))
theorem PA : (∀ {α : Type} (a : α), (a ≠ a) = False) ∧ (∀ {α : Type} (a : α), (a = a) = True) ∧ (∀ {α : Type} (a : α), (some a).isSome = true) ∧ (∀ {α : Type}, (none : Option α).isSome = false) ∧ (∀ {α : Type} (a d : α), (some a).getD d = a) ∧ (∀ {α : Type} (d : α), (none : Option α).getD d = d) ∧
    (∀ {α : Type} (h : Decidable True) (a b : α), @ite α True h a b = a) ∧ (∀ {α : Type} (h : Decidable False) (a b : α), @ite α False h a b = b) ∧
    (∀ {α : Type} (p : α → Bool) a l, (a :: l).all p = (p a && l.all p)) ∧ (∀ {α : Type} (p : α → Bool), ([] : List α).all p = true) := by
  and_intros
  all_goals (intros; first | rfl | (simp; done))
theorem PB : (∀ {α β : Type} (f : α → β) a, Option.map f (some a) = some (f a)) ∧ (∀ {α β : Type} (f : α → β), Option.map f none = none) ∧ (∀ {α β : Type} (f : α → Option β) a, Option.bind (some a) f = f a) := by
  and_intros
  all_goals (intros; rfl)
theorem PC : (∀ l, (str l).size = l.length) ∧ (∀ l : List UInt8, (⟨l.toArray⟩ : ByteArray) = str l) ∧ (ByteArray.empty = str []) ∧ ((false = true) = False) ∧
    (∀ h : Decidable True, @decide True h = true) ∧ (∀ h : Decidable False, @decide False h = false) ∧ (∀ n : Nat, (n : Int).toNat = n) ∧ (∀ n : Nat, 0 + n = n) ∧ (∀ n : Nat, n + 0 = n) ∧ (∀ n : Nat, 0 * n = 0) ∧ (∀ n : Nat, n * 1 = n) ∧ (∀ n : Nat, 1 * n = n) ∧
    (∀ p, (p ∧ True) = p) ∧ (∀ p, (True ∧ p) = p) ∧ (∀ p, (p ∧ p) = p) ∧ (∀ p, (False ∨ p) = p) ∧ (∀ p, (p ∨ False) = p) ∧ (∀ p, (True ∨ p) = True) ∧ (∀ p, (p ∨ True) = True) ∧ (∀ p, (False ∧ p) = False) ∧ (∀ p, (p ∧ False) = False) ∧
    ((¬ True) = False) ∧ ((¬ False) = True) ∧ ((!true) = false) ∧ ((!false) = true) ∧
    (∀ i n (c : Array Value) j off x, updU i n (some (.v (.agg c))) (some (.p j off)) (some (.v x)) = if j = i ∧ x.cells.size = n ∧ off + n ≤ c.size ∧ x.cells.toList.all one = true then some (.v (.agg (putL c off x.cells.toList))) else none) ∧
    (∀ n : Nat, (n = n) = True) := by
  and_intros
  all_goals (intros; first | rfl | (simp; done))
theorem Zr : type_of% (And.intro PS (And.intro P1 (And.intro P2 (And.intro P3 (And.intro P4 (And.intro P5 (And.intro P6 (And.intro P7 (And.intro P8 (And.intro PA (And.intro PB (And.intro PC (And.intro Nat.succ_ne_self (@Int.cast_ofNat_Int)))))))))))))) := And.intro PS (And.intro P1 (And.intro P2 (And.intro P3 (And.intro P4 (And.intro P5 (And.intro P6 (And.intro P7 (And.intro P8 (And.intro PA (And.intro PB (And.intro PC (And.intro Nat.succ_ne_self (@Int.cast_ofNat_Int)))))))))))))
theorem PL {α : Type} : (∀ l m : List α, (l ++ m).length = l.length + m.length) ∧ (∀ (a : α) l, (a :: l).length = l.length + 1) ∧ (([] : List α).length = 0) ∧ (∀ (l : List α) i, (l.take i).length = min i l.length) ∧ (∀ (l : List α) i, (l.drop i).length = l.length - i) := by
  and_intros
  all_goals (intros; simp)
end
end Go.Cw
namespace Go.Cw
open Go
def rowAt (h : Heap) (a : Addr) (cs : List Value) : Prop :=
  a.spot = none ∧ ∃ c t fz, h a.block = some (.cells c t fz) ∧ a.off + cs.length ≤ c.size ∧ ∀ i, i < cs.length → c[a.off + i]? = cs[i]?
def Sl {α : Type} (enc : α → List Value) (h : Heap) (v : Value) (l : List α) : Prop :=
  ∃ a cap, v = .slice a l.length cap ∧ l.length ≤ cap ∧ (l = [] ∨ ∃ g, a = some g ∧ rowAt h g (l.flatMap enc))
theorem rowAt.le {h h' : Heap} (hl : Heap.le h h') {a : Addr} {cs : List Value} (hr : rowAt h a cs) : rowAt h' a cs := by
  obtain ⟨h1, c, t, fz, h2, h3, h4⟩ := hr
  exact ⟨h1, c, t, fz, hl _ _ h2, h3, h4⟩
theorem Sl.le {α : Type} {enc : α → List Value} {h h' : Heap} (hl : Heap.le h h') {v : Value} {l : List α} (hs : Sl enc h v l) : Sl enc h' v l := by
  obtain ⟨a, cap, h1, h2, h3⟩ := hs
  exact ⟨a, cap, h1, h2, h3.imp id fun ⟨g, h4, h5⟩ => ⟨g, h4, h5.le hl⟩⟩
theorem addr_add' (a : Addr) (hs : a.spot = none) (n : Nat) : a.add n = ⟨a.block, a.off + n, none⟩ := by
  obtain ⟨b, o, s⟩ := a
  simp only at hs
  subst hs
  unfold Addr.add
  split
  · rename_i h0; simp [h0]
  · rfl
theorem rowAt.cell {h : Heap} {a : Addr} {cs : List Value} (hr : rowAt h a cs) {i : Nat} (hi : i < cs.length) : h.cell (a.add i) = some cs[i] := by
  obtain ⟨h1, c, t, fz, h2, h3, h4⟩ := hr
  rw [addr_add' a h1]
  simp [Heap.cell, Heap.cells, h2, h4 i hi, hi]
theorem rowAt.row {h : Heap} {a : Addr} {cs : List Value} (hr : rowAt h a cs) {i n : Nat} (hi : i + n ≤ cs.length) : h.row (a.add i) n = some ((cs.drop i).take n).toArray := by
  obtain ⟨h1, c, t, fz, h2, h3, h4⟩ := hr
  rw [addr_add' a h1]
  have hle : a.off + i + n ≤ c.size := by omega
  by_cases hn0 : n = 0
  · subst hn0; simp [Heap.row]
  simp only [Heap.row, hn0, Heap.cells, h2, Option.isSome_none, Bool.false_eq_true, if_false, Option.bind_some, hle, if_true, Option.some.injEq]
  apply Array.ext
  · simp; omega
  · intro j h5 h6
    have hj : j < n := by simp at h5; omega
    have h7 := h4 (i + j) (by omega)
    have h8 : a.off + i + j < c.size := by omega
    have h9 : i + j < cs.length := by omega
    rw [show a.off + (i + j) = a.off + i + j by omega, Array.getElem?_eq_getElem h8, List.getElem?_eq_getElem h9] at h7
    simp only [Array.getElem_extract, List.getElem_toArray, List.getElem_take, List.getElem_drop]
    exact Option.some.inj h7
theorem flat_len {α : Type} {enc : α → List Value} {sz : Nat} (he : ∀ x, (enc x).length = sz) (l : List α) : (l.flatMap enc).length = l.length * sz := by
  induction l with
  | nil => simp
  | cons x l ih => simp [ih, he, Nat.add_mul]; omega
theorem flat_drop {α : Type} {enc : α → List Value} {sz : Nat} (he : ∀ x, (enc x).length = sz) : ∀ (l : List α) (i : Nat) (hi : i < l.length), ((l.flatMap enc).drop (i * sz)).take sz = enc l[i] := by
  intro l
  induction l with
  | nil => intro i hi; cases hi
  | cons x l ih =>
    intro i hi
    cases i with
    | zero => simp only [List.flatMap_cons, Nat.zero_mul, List.drop_zero, List.getElem_cons_zero]; rw [← he x, List.take_left']; rfl
    | succ i =>
      have h1 : (i + 1) * sz = (enc x).length + i * sz := by rw [he x, Nat.add_mul]; omega
      simp only [List.flatMap_cons, List.getElem_cons_succ]
      rw [h1, ← List.drop_drop, List.drop_left']
      · exact ih i (by simpa using hi)
      · rfl
theorem flat_get {α : Type} {enc : α → List Value} {sz : Nat} (he : ∀ x, (enc x).length = sz) (l : List α) (i j : Nat) (hi : i < l.length) (hj : j < sz) :
    (l.flatMap enc)[i * sz + j]? = (enc l[i])[j]? := by
  rw [← flat_drop he l i hi]
  simp [hj]
theorem Sl.elem {α : Type} {enc : α → List Value} {sz : Nat} (he : ∀ x, (enc x).length = sz) {h : Heap} {g : Addr} {l : List α} (hr : rowAt h g (l.flatMap enc)) {i : Nat} (hi : i < l.length) :
    h.row (g.add (i * sz)) sz = some (enc l[i]).toArray := by
  have hlen := flat_len he l
  have : (i + 1) * sz ≤ l.length * sz := Nat.mul_le_mul_right _ hi
  have h2 : (i + 1) * sz = i * sz + sz := by rw [Nat.add_mul]; omega
  rw [hr.row (i := i * sz) (n := sz) (by omega), flat_drop he l i hi]
theorem Sl.field {α : Type} {enc : α → List Value} {sz : Nat} (he : ∀ x, (enc x).length = sz) {h : Heap} {g : Addr} {l : List α} (hr : rowAt h g (l.flatMap enc)) {i j : Nat} (hi : i < l.length) (hj : j < sz) :
    h.cell ((g.add (i * sz)).add j) = some ((enc l[i])[j]'(by rw [he]; exact hj)) := by
  have hlen := flat_len he l
  have h1 : (i + 1) * sz ≤ l.length * sz := Nat.mul_le_mul_right _ hi
  have h2 : (i + 1) * sz = i * sz + sz := by rw [Nat.add_mul]; omega
  have hlt : i * sz + j < (l.flatMap enc).length := by omega
  have e : (g.add (i * sz)).add j = g.add (i * sz + j) := by
    rw [addr_add' g hr.1, addr_add' _ rfl, addr_add' g hr.1]; simp [Nat.add_assoc]
  rw [e, hr.cell hlt]
  have := flat_get he l i j hi hj
  rw [List.getElem?_eq_getElem hlt, List.getElem?_eq_getElem (by rw [he]; exact hj)] at this
  exact this
end Go.Cw
