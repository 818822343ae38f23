/- Part 3 of the proof of RuleSays: a small language for the program's functions, its soundness, and what the functions do. No conditions beyond the theorems' own. -/
import Derived.Test.YthhepmakjimhlaaDoorCw2
set_option linter.unusedSimpArgs false
set_option linter.unusedVariables false
namespace Go.Cw
open Go
def wl (window need : Nat) (EL : List (List Si)) (tag : List UInt8) : List Int := (List.range EL.length).map fun e => atE window need (EL.take (e + 1)) tag
theorem wl_snoc (window need : Nat) (EL : List (List Si)) (l : List Si) (tag : List UInt8) : wl window need EL tag ++ [atE window need (EL ++ [l]) tag] = wl window need (EL ++ [l]) tag := by
  unfold wl
  rw [List.length_append, List.length_singleton, List.range_succ, List.map_append]
  congr 1
  · refine List.map_congr_left fun e he => ?_
    rw [List.mem_range] at he
    rw [List.take_append_of_le_length (by omega)]
  · simp [List.take_of_length_le]
theorem bestTo_none {need : Nat} {cnt : Int → Nat} {st : Int → Int} (h : ∀ p, cnt p < need) (n : Nat) : bestTo need cnt st n = -1 := by
  induction n with
  | zero => rfl
  | succ n ih => simp only [bestTo]; rw [if_pos (h _)]; exact ih
theorem wl_none {window need : Nat} {EL : List (List Si)} {tag : List UInt8} (hn : 1 ≤ need) (h : ¬ toldE EL tag) : wl window need EL tag = List.replicate EL.length (-1) := by
  refine List.eq_replicate_iff.2 ⟨by simp [wl], fun x hx => ?_⟩
  obtain ⟨e, _, rfl⟩ := List.mem_map.1 hx
  refine bestTo_none (fun p => ?_) 8
  have : (((EL.take (e + 1)).drop ((EL.take (e + 1)).length - window)).filter fun l => decide (seen l tag p)) = [] := by
    rw [List.filter_eq_nil_iff]
    rintro l hl hd
    obtain ⟨s, hs, h1, _⟩ := of_decide_eq_true hd
    exact h ⟨l, List.mem_of_mem_take (List.mem_of_mem_drop hl), s, hs, h1⟩
  unfold cntE; rw [this]; exact hn
def TrO (g : Heap) (b window need : Nat) (EL : List (List Si)) : Prop := ∃ W ev mw wkv bs ck gi ems, TrG g b window need EL W none ev mw wkv bs ck gi ems ∧ ∀ tag, W tag = if toldE EL tag then some (wl window need EL tag) else none
theorem nodup_idx {α : Type} {l : List α} (hl : l.Nodup) {i j : Nat} {x : α} (h1 : l[i]? = some x) (h2 : l[j]? = some x) : i = j := by
  obtain ⟨a1, a2⟩ := List.getElem?_eq_some_iff.1 h1
  exact (List.getElem?_inj a1 hl).1 (h1.trans h2.symm)
def S29 (N : Num) : Spec := fun args h K => ∃ b v l g window need EL, args = [.pointer (some ⟨b, 0, none⟩), v] ∧ Sl Si.enc h v l ∧ TrO g b window need EL ∧ Heap.le g h ∧ TrOk window need EL ∧ EL.length < 100000 ∧ l.length ≤ 1000000 ∧
  ((∃ s ∈ l, s.bad) → ∀ h', Heap.le h h' → K (errV N 1) h') ∧ ((∀ s ∈ l, ¬ s.bad) → ∀ h' g', Step g h g' h' → TrO g' b window need (EL ++ [l]) → K .nilIface h')
def mapO (o : Option Nat) : Value := .map o
theorem eqv_mapo (h : Heap) (o : Option Nat) : o2V h (.eqv .map false) (.v (mapO o)) (.v (.map none)) = some (.v (.bool (decide (o = none)))) := by
  cases o <;> rfl
theorem MapB.lkpm {h : Heap} {m : Nat} {kv : List (List UInt8 × Nat)} {bs : List Nat} {ck : Nat} (hm : MapB encKS mapV h m kv bs ck) (k : List UInt8) : o2V h (.lkp .str (.map none)) (.v (.map (some m))) (.v (.string (str k))) = some (.v (mapO (look kv k))) := by
  have := (hm.rules .str).1 (.map none) k
  rw [show (Value.string (str k)) = encKS k from rfl, this]
  cases look kv k <;> rfl
theorem MapB.lkpi {h : Heap} {m : Nat} {kv : List (Int × Int)} {bs : List Nat} {ck : Nat} (hm : MapB encKI encKI h m kv bs ck) (k : Int) : o2V h (.lkp .int (.int .i64 0)) (.v (.map (some m))) (.v (.int .i64 k)) = some (.v (.int .i64 ((look kv k).getD 0))) := by
  have := (hm.rules .int).1 (.int .i64 0) k
  rw [show (Value.int .i64 k) = encKI k from rfl, this]
  cases look kv k <;> rfl
theorem MapB.lkps {h : Heap} {m : Nat} {kv : List (List UInt8 × Value)} {bs : List Nat} {ck : Nat} (hm : MapB encKS id h m kv bs ck) (k : List UInt8) : o2V h (.lkp .str (.slice none 0 0)) (.v (.map (some m))) (.v (.string (str k))) = some (.v ((look kv k).getD (.slice none 0 0))) := by
  have := (hm.rules .str).1 (.slice none 0 0) k
  rw [show (Value.string (str k)) = encKS k from rfl, this]
  cases look kv k <;> rfl
theorem eqv_slB {h : Heap} {v : Value} {l : List Int} {g : Heap} (hs : SlB encI 1 g v l) {x : Nat} (hx : blkOf v = some x) : o2V h (.eqv .slice false) (.v v) (.v (.slice none 0 0)) = some (.v (.bool false)) := by
  obtain ⟨a, cap, rfl, _⟩ := hs
  cases a with
  | none => cases hx
  | some a => rfl
theorem eqv_sl0 {h : Heap} : o2V h (.eqv .slice false) (.v (.slice none 0 0)) (.v (.slice none 0 0)) = some (.v (.bool true)) := rfl
theorem addS_eq (E : Ep) (s : Si) : addS E s = upd (upd E s.tag ((look E s.tag).getD [])) s.tag (upd ((look E s.tag).getD []) s.place ((look ((look E s.tag).getD []) s.place).getD 0 + s.strength)) := by rw [upd_upd]; rfl
theorem F29_ok {N : Num} {Γ : Ctx} [GoodC Γ] (H60 : Sat S60 (Γ 60)) : Sat (S29 N) (SF N Γ F29) := by
  rintro _ h K ⟨b, v, l, g, window, need, EL, rfl, hs, hT, hg, hok, hlen, hll, hK1, hK2⟩
  refine i_fun rfl ?_
  simp only [F29, env0, List.map, List.length, List.replicate, List.cons_append, List.nil_append, Nat.reduceSub, Nat.reduceAdd]
  try simp (disch := first | omega | (simp only [PL]; omega)) only [PS, P1, P2, P3, P4, P5, P6, P7, P8, PA, PB, PC, Nat.reduceAdd, Nat.reduceSub, Nat.reduceMul, Nat.reduceLeDiff, Nat.reduceEqDiff, Nat.succ_ne_self, reduceCtorEq, Int.reduceToNat, Int.cast_ofNat_Int, Int.reduceEq, Int.reduceNe, Int.reduceLT, Int.reduceLE]
  refine i_mnew (ek := encKS) (ev := mapV) fun m h1 hm0 hle1 hmE => ?_
  have R1 := (hs.le hle1).rules 4 Si.enc_len default
  try simp (disch := first | omega | (simp only [PL]; omega)) only [PS, P1, P2, P3, P4, P5, P6, P7, P8, PA, PB, PC, Nat.reduceAdd, Nat.reduceSub, Nat.reduceMul, Nat.reduceLeDiff, Nat.reduceEqDiff, Nat.succ_ne_self, reduceCtorEq, Int.reduceToNat, Int.cast_ofNat_Int, Int.reduceEq, Int.reduceNe, Int.reduceLT, Int.reduceLE, R1]
  refine i_meet_blk (fun env h2 => Heap.le h h2 ∧ EpW (fr h h2) m (tellE l) ∧ (∀ s ∈ l, ¬ s.bad) ∧ env = [some (.pointer (some ⟨b, 0, none⟩)), none, none, some (.map (some m)), none, none, none, none, none, none, none, none, none, none, none, none, none, none, none, none, none, none, none, none, none, none, none, none, none, none, none, none, none, none, none, none, none, none, none, none, none, none, none, none, none]) ?_ ?_
  rotate_left
  · refine i_loop (fun i : Nat => [some (.pointer (some ⟨b, 0, none⟩)), none, none, some (.map (some m)), none, none, none, none, none, some v, some (.int .i64 l.length), some (.int .i64 i), none, none, none, none, none, none, none, none, none, none, none, none, none, none, none, none, none, none, none, none, none, none, none, none, none, none, none, none, none, none, none, none, none]) (fun i h2 => i ≤ l.length ∧ Heap.le h h2 ∧ EpW (fr h h2) m (tellE (l.take i)) ∧ ∀ s ∈ l.take i, ¬ s.bad) (fun i => l.length - i) 0 (by try simp only [Pe, and_true, true_and, and_self]; rfl)
      ⟨by omega, hle1, ⟨[], [], 0, hmE, by simp [look_nil, tellE], by simp [look_nil], by simp [look_nil]⟩, by simp⟩ ?_
    rintro i h2 ⟨hi, hle2, hE, hgood⟩
    have R2 := (hs.le hle2).rules 4 Si.enc_len default
    try simp (disch := first | omega | (simp only [PL]; omega)) only [PS, P1, P2, P3, P4, P5, P6, P7, P8, PA, PB, PC, Nat.reduceAdd, Nat.reduceSub, Nat.reduceMul, Nat.reduceLeDiff, Nat.reduceEqDiff, Nat.succ_ne_self, reduceCtorEq, Int.reduceToNat, Int.cast_ofNat_Int, Int.reduceEq, Int.reduceNe, Int.reduceLT, Int.reduceLE]
    refine i_cond (fun c1 => ?_) (fun c1 => ?_)
    rotate_left
    · try simp (disch := first | omega | (simp only [PL]; omega)) only [PS, P1, P2, P3, P4, P5, P6, P7, P8, PA, PB, PC, Nat.reduceAdd, Nat.reduceSub, Nat.reduceMul, Nat.reduceLeDiff, Nat.reduceEqDiff, Nat.succ_ne_self, reduceCtorEq, Int.reduceToNat, Int.cast_ofNat_Int, Int.reduceEq, Int.reduceNe, Int.reduceLT, Int.reduceLE]
      have : i = l.length := by omega
      subst this
      rw [List.take_length] at hE hgood
      exact k_meet _ (by try simp only [Pe, and_true, true_and, and_self]) ⟨hle2, hE, hgood, rfl⟩
    have hi2 : i < l.length := by omega
    have htk := take_succ_d default hi2 (l := l)
    try simp (disch := first | omega | (simp only [PL]; omega)) only [PS, P1, P2, P3, P4, P5, P6, P7, P8, PA, PB, PC, Nat.reduceAdd, Nat.reduceSub, Nat.reduceMul, Nat.reduceLeDiff, Nat.reduceEqDiff, Nat.succ_ne_self, reduceCtorEq, Int.reduceToNat, Int.cast_ofNat_Int, Int.reduceEq, Int.reduceNe, Int.reduceLT, Int.reduceLE, R2, Si.enc]
    refine i_cond (fun c2 => ?_) (fun c2 => ?_)
    · try simp (disch := first | omega | (simp only [PL]; omega)) only [PS, P1, P2, P3, P4, P5, P6, P7, P8, PA, PB, PC, Nat.reduceAdd, Nat.reduceSub, Nat.reduceMul, Nat.reduceLeDiff, Nat.reduceEqDiff, Nat.succ_ne_self, reduceCtorEq, Int.reduceToNat, Int.cast_ofNat_Int, Int.reduceEq, Int.reduceNe, Int.reduceLT, Int.reduceLE]
      exact hK1 ⟨_, getD_mem default hi2, by simp only [Si.bad]; omega⟩ h2 hle2
    have hsg : ¬ (l.getD i default).bad := by simp only [Si.bad]; omega
    have hgood' : ∀ s ∈ l.take (i + 1), ¬ s.bad := by
      intro s hs; rw [htk, List.mem_append, List.mem_singleton] at hs
      rcases hs with hs | rfl
      · exact hgood s hs
      · exact hsg
    have hsp := tellE_spec (l.take i)
    have hsum := fun p => sumS_bound hgood (l.getD i default).tag p
    have hti : (l.take i).length ≤ 1000000 := by rw [List.length_take]; omega
    have hE1 : tellE (l.take (i + 1)) = upd (upd (tellE (l.take i)) (l.getD i default).tag ((look (tellE (l.take i)) (l.getD i default).tag).getD [])) (l.getD i default).tag (upd ((look (tellE (l.take i)) (l.getD i default).tag).getD []) (l.getD i default).place ((look ((look (tellE (l.take i)) (l.getD i default).tag).getD []) (l.getD i default).place).getD 0 + (l.getD i default).strength)) := by
      rw [htk, tellE_snoc, addS_eq]
    generalize hx : l.getD i default = x at *
    generalize hEg : tellE (l.take i) = E at *
    obtain ⟨kv, kbs, kck, e1, e2, e3, e4⟩ := hE
    have Rk1 := (e1.le (fr_le h h2)).lkpm x.tag
    try simp (disch := first | omega | (simp only [PL]; omega)) only [PS, P1, P2, P3, P4, P5, P6, P7, P8, PA, PB, PC, Nat.reduceAdd, Nat.reduceSub, Nat.reduceMul, Nat.reduceLeDiff, Nat.reduceEqDiff, Nat.succ_ne_self, reduceCtorEq, Int.reduceToNat, Int.cast_ofNat_Int, Int.reduceEq, Int.reduceNe, Int.reduceLT, Int.reduceLE, Rk1, eqv_mapo]
    refine i_meet_cond (fun env h3 => Heap.le h h3 ∧ EpW (fr h h3) m (upd E x.tag ((look E x.tag).getD [])) ∧ env = [some (.pointer (some ⟨b, 0, none⟩)), none, none, some (.map (some m)), some (.agg x.enc.toArray), none, none, none, none, some v, some (.int .i64 l.length), some (.int .i64 i), none, none, none, none, none, none, none, none, none, none, none, none, none, none, none, none, none, none, none, none, none, none, none, none, none, none, none, none, none, none, none, none, none]) ?_ ?_
    · rintro env h3 ⟨hle3, hE3, rfl⟩
      obtain ⟨kv3, kbs3, kck3, f1, f2, f3, f4⟩ := hE3
      have hlk : ∃ bb, look kv3 x.tag = some bb := by
        cases hh : look kv3 x.tag with
        | some bb => exact ⟨bb, rfl⟩
        | none => have := (f2 x.tag).1 hh; rw [look_upd, if_pos rfl] at this; cases this
      obtain ⟨bb, hbb⟩ := hlk
      obtain ⟨hbm, pl, pbs, pck, p1, p2⟩ := f3 x.tag bb hbb
      rw [look_upd, if_pos rfl] at p1
      have hpl : pl = (look E x.tag).getD [] := by cases p1; rfl
      have Rk3 := (f1.le (fr_le h h3)).lkpm x.tag
      rw [hbb] at Rk3
      simp only [mapO] at Rk3
      have Rp3 := (p2.le (fr_le h h3)).lkpi x.place
      have hbd : 0 ≤ (look pl x.place).getD 0 ∧ (look pl x.place).getD 0 ≤ 255000000 := by
        rw [hpl]
        cases hh : look E x.tag with
        | none => simp [look_nil]
        | some pl' =>
          simp only [Option.getD_some]
          have := (hsp.2.2 x.tag pl' hh).2 x.place
          rw [this]
          have := hsum x.place
          split <;> simp <;> omega
      have hxs : 0 ≤ x.strength ∧ x.strength ≤ 255 := by simp only [Si.bad] at hsg; omega
      have hw : IntKind.i64.wrap ((look pl x.place).getD 0 + x.strength) = (look pl x.place).getD 0 + x.strength := w64 (by omega) (by omega)
      try simp (disch := first | omega | (simp only [PL]; omega)) only [PS, P1, P2, P3, P4, P5, P6, P7, P8, PA, PB, PC, Nat.reduceAdd, Nat.reduceSub, Nat.reduceMul, Nat.reduceLeDiff, Nat.reduceEqDiff, Nat.succ_ne_self, reduceCtorEq, Int.reduceToNat, Int.cast_ofNat_Int, Int.reduceEq, Int.reduceNe, Int.reduceLT, Int.reduceLE, Rk3, Rp3, hw, Si.enc]
      have hbb0 : h bb = none := by
        cases hh : h bb with
        | none => rfl
        | some o => exact absurd (by simp [fr, hh]) p2.mem
      refine i_mupd (kb := .int) (ek := encKI) (ev := encKI) (p2.le (fr_le h h3)) (Heap.le.refl h3) x.place ((look pl x.place).getD 0 + x.strength) fun o bs' ck' q1 q2 _ => ?_
      try simp (disch := first | omega | (simp only [PL]; omega)) only [PS, P1, P2, P3, P4, P5, P6, P7, P8, PA, PB, PC, Nat.reduceAdd, Nat.reduceSub, Nat.reduceMul, Nat.reduceLeDiff, Nat.reduceEqDiff, Nat.succ_ne_self, reduceCtorEq, Int.reduceToNat, Int.cast_ofNat_Int, Int.reduceEq, Int.reduceNe, Int.reduceLT, Int.reduceLE]
      refine k_loop (i + 1) (by omega) (by try simp only [Pe, and_true, true_and, and_self]) ⟨by omega, le_set_new hle3 hbb0, ?_, hgood'⟩
      rw [fr_set_new hbb0, hE1, ← hpl]
      rw [← hpl] at f2 f3
      have q1' : MapB encKI encKI ((fr h h3).set bb o) bb (upd pl x.place ((look pl x.place).getD 0 + x.strength)) bs' ck' := by
        obtain ⟨es, a1, a2⟩ := q1
        rw [Heap.set_eq] at a1
        exact ⟨es, by rw [Heap.set_eq]; exact a1, a2⟩
      exact EpW.put f1 f2 f3 f4 hbb q1'
    · refine i_cond (fun c3 => ?_) (fun c3 => ?_)
      · try simp (disch := first | omega | (simp only [PL]; omega)) only [PS, P1, P2, P3, P4, P5, P6, P7, P8, PA, PB, PC, Nat.reduceAdd, Nat.reduceSub, Nat.reduceMul, Nat.reduceLeDiff, Nat.reduceEqDiff, Nat.succ_ne_self, reduceCtorEq, Int.reduceToNat, Int.cast_ofNat_Int, Int.reduceEq, Int.reduceNe, Int.reduceLT, Int.reduceLE, Si.enc]
        refine i_mnew (ek := encKI) (ev := encKI) fun mb h3 hb0 hle3 hbM => ?_
        try simp (disch := first | omega | (simp only [PL]; omega)) only [PS, P1, P2, P3, P4, P5, P6, P7, P8, PA, PB, PC, Nat.reduceAdd, Nat.reduceSub, Nat.reduceMul, Nat.reduceLeDiff, Nat.reduceEqDiff, Nat.succ_ne_self, reduceCtorEq, Int.reduceToNat, Int.cast_ofNat_Int, Int.reduceEq, Int.reduceNe, Int.reduceLT, Int.reduceLE]
        have hm0' : h m = none := hm0
        have e1' : MapB encKS mapV (fr h h3) m kv kbs kck := e1.le (fr_mono hle3)
        have hbM' : MapB encKI encKI (fr h h3) mb ([] : List (Int × Int)) [] 0 := hbM.le (fr_fr hle2)
        have hmbm : mb ≠ m := by rintro rfl; exact (e1.le (fr_le h h2)).mem hb0
        refine i_mupd (kb := .str) (ek := encKS) (ev := mapV) (e1'.le (fr_le h h3)) (Heap.le.refl h3) x.tag mb fun o bs' ck' q1 q2 _ => ?_
        try simp (disch := first | omega | (simp only [PL]; omega)) only [PS, P1, P2, P3, P4, P5, P6, P7, P8, PA, PB, PC, Nat.reduceAdd, Nat.reduceSub, Nat.reduceMul, Nat.reduceLeDiff, Nat.reduceEqDiff, Nat.succ_ne_self, reduceCtorEq, Int.reduceToNat, Int.cast_ofNat_Int, Int.reduceEq, Int.reduceNe, Int.reduceLT, Int.reduceLE]
        refine k_meet _ (by try simp only [Pe, and_true, true_and, and_self]) ⟨le_set_new (hle2.trans hle3) hm0, ?_, rfl⟩
        rw [fr_set_new hm0, ((e2 x.tag).1 c3)]
        have q1' : MapB encKS mapV ((fr h h3).set m o) m (upd kv x.tag mb) bs' ck' := by
          obtain ⟨es, a1, a2⟩ := q1
          rw [Heap.set_eq] at a1
          exact ⟨es, by rw [Heap.set_eq]; exact a1, a2⟩
        refine EpW.ins e1' e2 (fun t y hy => ?_) e4 hbM' hmbm (fun t y hy => ?_) q1'
        · obtain ⟨n, pl, bs, ck, a, c⟩ := e3 t y hy
          exact ⟨n, pl, bs, ck, a, c.le (fr_mono hle3)⟩
        · rintro rfl
          obtain ⟨n, pl, bs, ck, a, c⟩ := e3 t y hy
          exact (c.le (fr_le h h2)).mem hb0
      · try simp (disch := first | omega | (simp only [PL]; omega)) only [PS, P1, P2, P3, P4, P5, P6, P7, P8, PA, PB, PC, Nat.reduceAdd, Nat.reduceSub, Nat.reduceMul, Nat.reduceLeDiff, Nat.reduceEqDiff, Nat.succ_ne_self, reduceCtorEq, Int.reduceToNat, Int.cast_ofNat_Int, Int.reduceEq, Int.reduceNe, Int.reduceLT, Int.reduceLE]
        refine k_meet _ (by try simp only [Pe, and_true, true_and, and_self]; rfl) ⟨hle2, ?_, rfl⟩
        cases hh : look E x.tag with
        | none => exact absurd ((e2 x.tag).2 hh) c3
        | some pl =>
          simp only [Option.getD_some]
          rw [upd_same hh]
          exact ⟨kv, kbs, kck, e1, e2, e3, e4⟩
  · rintro env h2 ⟨hle2, hE, hgood, rfl⟩
    obtain ⟨W, ev, mw, wkv, bs, ck, gi, ems, hT, hW⟩ := hT
    have Ro := (objAt.le hT.obj (hg.trans hle2)).rules
    have A2 : h2.cell ((⟨b, 0, none⟩ : Addr).add 2) = some ev := Ro.1 2 (by simp)
    have Sev : SlB encM 1 h2 ev ems := hT.evs.le (hg.trans hle2)
    have O1 := Sev.one
    try simp (disch := first | omega | (simp only [PL]; omega)) only [PS, P1, P2, P3, P4, P5, P6, P7, P8, PA, PB, PC, Nat.reduceAdd, Nat.reduceSub, Nat.reduceMul, Nat.reduceLeDiff, Nat.reduceEqDiff, Nat.succ_ne_self, reduceCtorEq, Int.reduceToNat, Int.cast_ofNat_Int, Int.reduceEq, Int.reduceNe, Int.reduceLT, Int.reduceLE, A2, O1.1, O1.2]
    refine i_bslB encM 1 (fun _ => rfl) [m] rfl rfl (by simp [maxLen]) fun x1 b1 h3 hle3 hb1 hx1 hS1 => ?_
    have O2 := hS1.one
    try simp (disch := first | omega | (simp only [PL]; omega)) only [PS, P1, P2, P3, P4, P5, P6, P7, P8, PA, PB, PC, Nat.reduceAdd, Nat.reduceSub, Nat.reduceMul, Nat.reduceLeDiff, Nat.reduceEqDiff, Nat.succ_ne_self, reduceCtorEq, Int.reduceToNat, Int.cast_ofNat_Int, Int.reduceEq, Int.reduceNe, Int.reduceLT, Int.reduceLE, O2.1, O2.2]
    have hfr : ∀ x, g x ≠ none → gi x = none → join gi (fr h h2) x = none := by
      intro x hx hgx
      cases hg2 : g x with
      | none => exact absurd hg2 hx
      | some o => exact join_none hgx (fr_none (hg x o hg2))
    have St1 := Step.alloc hg hle2
    have hT1 : TrG (join g (fr h h2)) b window need EL W none ev mw wkv bs ck (join gi (fr h h2)) ems := by
      refine hT.more (join_l _ _) (join_l _ _) (fun x o hx => ?_) hfr
      cases hgx : gi x with
      | some o2 => rw [join_l gi _ x o2 hgx] at hx; rw [join_l g _ x o2 (hT.gile x o2 hgx)]; exact hx
      | none =>
        cases hg2 : g x with
        | some o2 => rw [hfr x (by rw [hg2]; simp) hgx] at hx; cases hx
        | none => simp only [join, hgx, hg2] at hx ⊢; exact hx
    have hg3 := St1.le.trans hle3
    refine i_appB (enc := encM) (sz := 1) (g := join g (fr h h2)) (l := ems) (l' := [m]) (fun _ => rfl) (by simp [encM, mapV, one]) hT1.evs hg3 (SlB.sl (enc := encM) (sz := 1) (fun _ => rfl) (hS1.le (fr_le _ _))) (by have := hT.elen; simp; omega) fun ev' h4 g4 hS4 St2 e1 e2 e3 => ?_
    have hob4 : objAt g4 ⟨b, 0, none⟩ [.int .i64 window, .int .i64 need, ev, .map (some mw)] := by
      obtain ⟨q1, c, t, q2, q3⟩ := hT1.obj
      refine ⟨q1, c, t, ?_, q3⟩
      have hb' : blkOf ev' ≠ some b := by
        intro e
        rcases e2 b e with h6 | h6
        · exact hT1.d2.1 h6
        · exact hT1.obj.mem (le_none hg3 b h6)
      rw [show (⟨b, 0, none⟩ : Addr).block = b from rfl, e1 b hT1.d2.1 hb']; exact q2
    have O4 := hS4.one
    try simp (disch := first | omega | (simp only [PL]; omega)) only [PS, P1, P2, P3, P4, P5, P6, P7, P8, PA, PB, PC, Nat.reduceAdd, Nat.reduceSub, Nat.reduceMul, Nat.reduceLeDiff, Nat.reduceEqDiff, Nat.succ_ne_self, reduceCtorEq, Int.reduceToNat, Int.cast_ofNat_Int, Int.reduceEq, Int.reduceNe, Int.reduceLT, Int.reduceLE]
    refine i_st (objAt.le hob4 St2.le) 2 1 (by rw [O4.2]; rfl) (by rw [O4.2]; simp [O4.1]) (by omega) (by simp) fun o k1 k2 => ?_
    have hT5 := hT1.appEv hg3 hS4 e1 e2 (hE.r.le (join_r (hT.gile.trans (hg.trans hle2)) (fr_le _ _))) (o := o) (by
      obtain ⟨q1, c, t, q2, q3⟩ := hob4
      have := k1 g4 (by rw [q2]; exact (St2.le _ _ q2).symm)
      rw [O4.2] at this; simpa using this)
    have St5 : Step g h (g4.set b o) (h4.set b o) := (St1.trans ((Step.more St1.le hle3).trans St2)).trans (Step.set St2.le hob4.mem o)
    obtain ⟨ekv, ebs, eck, n1, n2, n3⟩ := hE.r
    have n1 := n1.le (join_r (hT.gile.trans (hg.trans hle2)) (fr_le h h2))
    have nb : ebs.length = ekv.length := by obtain ⟨_, _, q⟩ := n1; exact q.2.1
    have nd : ebs.Nodup := by obtain ⟨_, _, q⟩ := n1; exact q.2.2.1
    generalize join gi (fr h h2) = gi5 at *
    generalize ems ++ [m] = ems5 at *
    generalize hg5 : g4.set b o = g5 at *
    generalize hh5 : h4.set b o = h5 at *
    clear k1 k2 hob4 e1 e2 e3 hS4 hg3 St2 hT1 hfr St1 hS1 O1 O2 O4 A2 Ro Sev hE hle3 hg5 hh5 hx1 hb1
    try simp (disch := first | omega | (simp only [PL]; omega)) only [PS, P1, P2, P3, P4, P5, P6, P7, P8, PA, PB, PC, Nat.reduceAdd, Nat.reduceSub, Nat.reduceMul, Nat.reduceLeDiff, Nat.reduceEqDiff, Nat.succ_ne_self, reduceCtorEq, Int.reduceToNat, Int.cast_ofNat_Int, Int.reduceEq, Int.reduceNe, Int.reduceLT, Int.reduceLE]
    have hm5 : ∃ es, h5 m = some (.map es eck) := by obtain ⟨es, q, _⟩ := n1; exact ⟨es, (hT5.gile.trans St5.le) _ _ q⟩
    obtain ⟨es5, hes5⟩ := hm5
    refine i_rng hes5 fun r h6 hr hle6 hit => ?_
    obtain ⟨St6, hgr⟩ := St5.cnew hr hle6 (fr_le _ _ _ _ hit)
    try simp (disch := first | omega | (simp only [PL]; omega)) only [PS, P1, P2, P3, P4, P5, P6, P7, P8, PA, PB, PC, Nat.reduceAdd, Nat.reduceSub, Nat.reduceMul, Nat.reduceLeDiff, Nat.reduceEqDiff, Nat.succ_ne_self, reduceCtorEq, Int.reduceToNat, Int.cast_ofNat_Int, Int.reduceEq, Int.reduceNe, Int.reduceLT, Int.reduceLE]
    refine i_meet_blk (fun env h7 => (∃ g7 W7 wkv7 bs7 ck7, Step g h g7 h7 ∧ TrG g7 b window need (EL ++ [l]) W7 none ev' mw wkv7 bs7 ck7 gi5 ems5 ∧ ∀ tag, W7 tag = if toldE EL tag then some (wl window need EL tag) else if toldIn l tag then some [] else none) ∧ env = [some (.pointer (some ⟨b, 0, none⟩)), none, none, none, none, none, none, none, none, none, none, none, none, none, none, none, none, none, none, none, none, none, none, none, none, none, none, none, none, none, none, none, none, none, none, none, none, none, none, none, none, none, none, none, none]) ?_ ?_
    rotate_left
    · refine i_loop (fun _ : List Nat => [some (.pointer (some ⟨b, 0, none⟩)), none, none, none, none, none, none, none, none, none, none, none, none, none, none, none, none, none, none, none, none, none, none, some (.pointer (some ⟨r, 0, none⟩)), none, none, none, none, none, none, none, none, none, none, none, none, none, none, none, none, none, none, none, none, none])
        (fun dn h7 => ∃ g7 W7 wkv7 bs7 ck7, Step g h (join (cell1 r (.mapIter (some m) eck dn.toArray eck)) g7) h7 ∧ g7 r = none ∧ TrG g7 b window need (EL ++ [l]) W7 none ev' mw wkv7 bs7 ck7 gi5 ems5 ∧ (∀ x ∈ dn, x ∈ ebs) ∧ (∀ tag, W7 tag = W tag ∨ (W tag = none ∧ W7 tag = some [] ∧ toldIn l tag)) ∧ (∀ (i : Nat) k v x, ekv[i]? = some (k, v) → ebs[i]? = some x → x ∈ dn → W7 k ≠ none))
        (fun dn => todo ebs dn) [] (by try simp only [Pe, and_true, true_and, and_self]) ⟨g5, W, wkv, bs, ck, St6, hgr, hT5, by simp, fun tag => .inl rfl, by intro i k v x _ _ h; simp at h⟩ ?_
      rintro dn h7 ⟨g7, W7, wkv7, bs7, ck7, St7, hg7, hT7, d1, d2, d3⟩
      obtain ⟨it7, hle7⟩ := St7.cr hg7
      have n7 := n1.le (hT7.gile.trans hle7)
      try simp (disch := first | omega | (simp only [PL]; omega)) only [PS, P1, P2, P3, P4, P5, P6, P7, P8, PA, PB, PC, Nat.reduceAdd, Nat.reduceSub, Nat.reduceMul, Nat.reduceLeDiff, Nat.reduceEqDiff, Nat.succ_ne_self, reduceCtorEq, Int.reduceToNat, Int.cast_ofNat_Int, Int.reduceEq, Int.reduceNe, Int.reduceLT, Int.reduceLE]
      refine i_nxt n7 it7 d1 ?_ ?_
      · intro hall
        try simp (disch := first | omega | (simp only [PL]; omega)) only [PS, P1, P2, P3, P4, P5, P6, P7, P8, PA, PB, PC, Nat.reduceAdd, Nat.reduceSub, Nat.reduceMul, Nat.reduceLeDiff, Nat.reduceEqDiff, Nat.succ_ne_self, reduceCtorEq, Int.reduceToNat, Int.cast_ofNat_Int, Int.reduceEq, Int.reduceNe, Int.reduceLT, Int.reduceLE]
        refine k_meet _ (by try simp only [Pe, and_true, true_and, and_self]) ⟨⟨g7, W7, wkv7, bs7, ck7, St7.cdrop hg7, hT7, fun tag => ?_⟩, rfl⟩
        have hWt := hW tag
        rcases d2 tag with h1 | ⟨h1, h2, h3⟩
        · rw [h1, hWt]
          by_cases e : toldE EL tag
          · rw [if_pos e, if_pos e]
          · rw [if_neg e, if_neg e]
            by_cases e2 : toldIn l tag
            · have h3 : look (tellE l) tag ≠ none := fun h4 => ((tellE_spec l).1 tag).1 h4 e2
              have h4 : look ekv tag ≠ none := fun h5 => h3 ((n2 tag).1 h5)
              cases h5 : look ekv tag with
              | none => exact absurd h5 h4
              | some v =>
                obtain ⟨j, hj, he⟩ := List.getElem_of_mem (look_mem h5)
                exact absurd (h1.trans (hWt.trans (if_neg e))) (d3 j tag v (ebs[j]'(by omega)) (by rw [List.getElem?_eq_getElem hj, he]) (by rw [List.getElem?_eq_getElem]) (hall _ (List.getElem_mem _)))
            · rw [if_neg e2]
        · have e : ¬ toldE EL tag := by intro e; rw [hWt, if_pos e] at h1; cases h1
          rw [h2, if_neg e, if_pos h3]
      · intro i x k v hi hx hnd
        have St8 := St7.cset hg7 (.mapIter (some m) eck (dn ++ [x]).toArray eck)
        obtain ⟨it8, hle8⟩ := St8.cr hg7
        generalize h7.set r (.mapIter (some m) eck (dn ++ [x]).toArray eck) = h8 at *
        try simp (disch := first | omega | (simp only [PL]; omega)) only [PS, P1, P2, P3, P4, P5, P6, P7, P8, PA, PB, PC, Nat.reduceAdd, Nat.reduceSub, Nat.reduceMul, Nat.reduceLeDiff, Nat.reduceEqDiff, Nat.succ_ne_self, reduceCtorEq, Int.reduceToNat, Int.cast_ofNat_Int, Int.reduceEq, Int.reduceNe, Int.reduceLT, Int.reduceLE]
        refine i_ent (n1.le (hT7.gile.trans hle8)) it8 hi hx ?_
        have Ro := (objAt.le hT7.obj hle8).rules
        have A3 : h8.cell ((⟨b, 0, none⟩ : Addr).add 3) = some (.map (some mw)) := Ro.1 3 (by simp)
        have Rk := (hT7.wm.le hle8).lkps k
        have hd8 : ∀ y ∈ dn ++ [x], y ∈ ebs := by
          intro y hy
          rw [List.mem_append, List.mem_singleton] at hy
          rcases hy with hy | rfl
          · exact d1 y hy
          · exact List.mem_of_getElem? hx
        have hkt : toldIn l k := by
          have h1 : look ekv k ≠ none := fun e => look_none e (List.mem_map.2 ⟨_, List.mem_of_getElem? hi, rfl⟩)
          have h2 : look (tellE l) k ≠ none := fun e => h1 ((n2 k).2 e)
          exact Classical.byContradiction fun h3 => h2 (((tellE_spec l).1 k).2 h3)
        have hmeas : todo ebs (dn ++ [x]) < todo ebs dn := todo_lt (List.mem_of_getElem? hx) hnd
        have hkey : ∀ (j : Nat) k' v' x', ekv[j]? = some (k', v') → ebs[j]? = some x' → x' ∈ dn ++ [x] → x' ∈ dn ∨ k' = k := by
          intro j k' v' x' a1 a2 a3
          rw [List.mem_append, List.mem_singleton] at a3
          refine a3.imp id ?_
          rintro rfl
          have := nodup_idx nd a2 hx
          subst this
          rw [hi] at a1; cases a1; rfl
        cases hlk : look wkv7 k with
        | some w =>
          obtain ⟨l', x', q1, q2, q3, q4⟩ := hT7.wsome k w hlk (by simp)
          rw [hlk, Option.getD_some] at Rk
          have Re := eqv_slB (h := h8) q2 q3
          try simp (disch := first | omega | (simp only [PL]; omega)) only [PS, P1, P2, P3, P4, P5, P6, P7, P8, PA, PB, PC, Nat.reduceAdd, Nat.reduceSub, Nat.reduceMul, Nat.reduceLeDiff, Nat.reduceEqDiff, Nat.succ_ne_self, reduceCtorEq, Int.reduceToNat, Int.cast_ofNat_Int, Int.reduceEq, Int.reduceNe, Int.reduceLT, Int.reduceLE, A3, encKS, Rk, Re]
          refine k_loop (dn ++ [x]) hmeas (by try simp only [Pe, and_true, true_and, and_self]) ⟨g7, W7, wkv7, bs7, ck7, St8, hg7, hT7, hd8, d2, fun j k' v' x' a1 a2 a3 => ?_⟩
          rcases hkey j k' v' x' a1 a2 a3 with h1 | rfl
          · exact d3 j k' v' x' a1 a2 h1
          · rw [q1]; simp
        | none =>
          have hWn := hT7.wnone k hlk
          rw [hlk, Option.getD_none] at Rk
          try simp (disch := first | omega | (simp only [PL]; omega)) only [PS, P1, P2, P3, P4, P5, P6, P7, P8, PA, PB, PC, Nat.reduceAdd, Nat.reduceSub, Nat.reduceMul, Nat.reduceLeDiff, Nat.reduceEqDiff, Nat.succ_ne_self, reduceCtorEq, Int.reduceToNat, Int.cast_ofNat_Int, Int.reduceEq, Int.reduceNe, Int.reduceLT, Int.reduceLE, A3, encKS, Rk, eqv_sl0, Option.isNone_none]
          refine i_bslB encI 1 (fun _ => rfl) [] rfl rfl (by simp [maxLen]) fun x1 b1 h9 hle9 hb1 hx1 hS1 => ?_
          have O1 := hS1.one
          have St9 := Step.alloc (hle8) hle9
          have hgj : Heap.le (join g7 (fr h8 h9)) h9 := St9.le
          have hT9 := hT7.le (join_l g7 (fr h8 h9))
          try simp (disch := first | omega | (simp only [PL]; omega)) only [PS, P1, P2, P3, P4, P5, P6, P7, P8, PA, PB, PC, Nat.reduceAdd, Nat.reduceSub, Nat.reduceMul, Nat.reduceLeDiff, Nat.reduceEqDiff, Nat.succ_ne_self, reduceCtorEq, Int.reduceToNat, Int.cast_ofNat_Int, Int.reduceEq, Int.reduceNe, Int.reduceLT, Int.reduceLE, O1.1, O1.2]
          refine i_mupd (kb := .str) (ek := encKS) (ev := id) hT9.wm hgj k x1 fun o bs' ck' p1 p2 _ => ?_
          have hno : ∀ y, g7 y ≠ none → y ≠ b1 := by
            rintro y hy rfl
            exact hy (le_none hle8 _ hb1)
          have hT10 := hT9.put (.inl rfl) (hS1.le (join_r (hle8.trans hle9) (fr_le _ _))) hx1 (Ne.symm (hno b hT7.obj.mem)) (Ne.symm (hno mw hT7.wm.mem)) (fun e => hno b1 (hT7.evs.mem e) rfl) (by
            cases hgx : gi5 b1 with
            | none => rfl
            | some o => exact absurd rfl (hno b1 (by rw [hT7.gile _ _ hgx]; simp))) (fun t w hw ht e => by
            obtain ⟨l', y, a1, a2, a3, _⟩ := hT7.wsome t w hw (by simp)
            exact hno b1 (a2.mem e) rfl) p1
          obtain ⟨St10, hg10⟩ := St8.cpart hg7 (St9.trans p2)
          try simp (disch := first | omega | (simp only [PL]; omega)) only [PS, P1, P2, P3, P4, P5, P6, P7, P8, PA, PB, PC, Nat.reduceAdd, Nat.reduceSub, Nat.reduceMul, Nat.reduceLeDiff, Nat.reduceEqDiff, Nat.succ_ne_self, reduceCtorEq, Int.reduceToNat, Int.cast_ofNat_Int, Int.reduceEq, Int.reduceNe, Int.reduceLT, Int.reduceLE]
          refine k_loop (dn ++ [x]) hmeas (by try simp only [Pe, and_true, true_and, and_self]) ⟨_, _, _, _, _, St10, hg10, hT10, hd8, fun tag => ?_, fun j k' v' x' a1 a2 a3 => ?_⟩
          · by_cases e : tag = k
            · subst e
              refine .inr ⟨?_, by simp, hkt⟩
              rcases d2 tag with h1 | h1
              · rw [← h1]; exact hWn
              · exact h1.1
            · simp only [e, if_false]; exact d2 tag
          · by_cases e : k' = k
            · subst e; simp
            · simp only [e, if_false]
              exact (hkey j k' v' x' a1 a2 a3).elim (fun h1 => d3 j k' v' x' a1 a2 h1) (fun h1 => absurd h1 e)
    · rintro env h7 ⟨⟨g7, W7, wkv7, bs7, ck7, St7, hT7, hW7⟩, rfl⟩
      clear n1 n2 n3 nb nd hes5 hit St6 hgr St5 hT5 hW hle6
      have Ro := (objAt.le hT7.obj St7.le).rules
      have A3 : h7.cell ((⟨b, 0, none⟩ : Addr).add 3) = some (.map (some mw)) := Ro.1 3 (by simp)
      try simp (disch := first | omega | (simp only [PL]; omega)) only [PS, P1, P2, P3, P4, P5, P6, P7, P8, PA, PB, PC, Nat.reduceAdd, Nat.reduceSub, Nat.reduceMul, Nat.reduceLeDiff, Nat.reduceEqDiff, Nat.succ_ne_self, reduceCtorEq, Int.reduceToNat, Int.cast_ofNat_Int, Int.reduceEq, Int.reduceNe, Int.reduceLT, Int.reduceLE, A3]
      have hm7 : ∃ es, h7 mw = some (.map es ck7) := by obtain ⟨es, q, _⟩ := hT7.wm; exact ⟨es, St7.le _ _ q⟩
      obtain ⟨es7, hes7⟩ := hm7
      refine i_rng hes7 fun r h8 hr hle8 hit => ?_
      obtain ⟨St8, hgr⟩ := St7.cnew hr hle8 (fr_le _ _ _ _ hit)
      try simp (disch := first | omega | (simp only [PL]; omega)) only [PS, P1, P2, P3, P4, P5, P6, P7, P8, PA, PB, PC, Nat.reduceAdd, Nat.reduceSub, Nat.reduceMul, Nat.reduceLeDiff, Nat.reduceEqDiff, Nat.succ_ne_self, reduceCtorEq, Int.reduceToNat, Int.cast_ofNat_Int, Int.reduceEq, Int.reduceNe, Int.reduceLT, Int.reduceLE]
      refine i_loop (fun _ : List Nat => [some (.pointer (some ⟨b, 0, none⟩)), none, none, none, none, none, none, none, none, none, none, none, none, none, none, none, none, none, none, none, none, none, none, none, none, none, none, none, none, none, none, some (.pointer (some ⟨r, 0, none⟩)), none, none, none, none, none, none, none, none, none, none, none, none, none])
        (fun dn h8 => ∃ g8 W8 wkv8, Step g h (join (cell1 r (.mapIter (some mw) ck7 dn.toArray ck7)) g8) h8 ∧ g8 r = none ∧ TrG g8 b window need (EL ++ [l]) W8 none ev' mw wkv8 bs7 ck7 gi5 ems5 ∧ wkv8.map (·.1) = wkv7.map (·.1) ∧ (∀ x ∈ dn, x ∈ bs7) ∧ (∀ (i : Nat) k x, (wkv7.map (·.1))[i]? = some k → bs7[i]? = some x → W8 k = if x ∈ dn then some (wl window need (EL ++ [l]) k) else W7 k))
        (fun dn => todo bs7 dn) [] (by try simp only [Pe, and_true, true_and, and_self]) ⟨g7, W7, wkv7, St8, hgr, hT7, rfl, by simp, by simp⟩ ?_
      rintro dn h8 ⟨g8, W8, wkv8, St8, hg8, hT8, hks, d1, d2⟩
      obtain ⟨it8, hle8⟩ := St8.cr hg8
      try simp (disch := first | omega | (simp only [PL]; omega)) only [PS, P1, P2, P3, P4, P5, P6, P7, P8, PA, PB, PC, Nat.reduceAdd, Nat.reduceSub, Nat.reduceMul, Nat.reduceLeDiff, Nat.reduceEqDiff, Nat.succ_ne_self, reduceCtorEq, Int.reduceToNat, Int.cast_ofNat_Int, Int.reduceEq, Int.reduceNe, Int.reduceLT, Int.reduceLE]
      refine i_nxt (hT8.wm.le hle8) it8 d1 ?_ ?_
      · intro hall
        try simp (disch := first | omega | (simp only [PL]; omega)) only [PS, P1, P2, P3, P4, P5, P6, P7, P8, PA, PB, PC, Nat.reduceAdd, Nat.reduceSub, Nat.reduceMul, Nat.reduceLeDiff, Nat.reduceEqDiff, Nat.succ_ne_self, reduceCtorEq, Int.reduceToNat, Int.cast_ofNat_Int, Int.reduceEq, Int.reduceNe, Int.reduceLT, Int.reduceLE]
        refine hK2 hgood h8 g8 (St8.cdrop hg8) ⟨W8, ev', mw, wkv8, bs7, ck7, gi5, ems5, hT8, fun tag => ?_⟩
        obtain ⟨_, _, _, w3, w4, _, w6⟩ := hT8.wm
        have h1 : toldE (EL ++ [l]) tag ↔ toldE EL tag ∨ toldIn l tag := by
          simp only [toldE, List.mem_append, List.mem_singleton]
          constructor
          · rintro ⟨x, hx | rfl, h⟩
            · exact .inl ⟨x, hx, h⟩
            · exact .inr h
          · rintro (⟨x, hx, h⟩ | h)
            · exact ⟨x, .inl hx, h⟩
            · exact ⟨l, .inr rfl, h⟩
        have hw7 := hW7 tag
        by_cases hin : tag ∈ wkv7.map (·.1)
        · obtain ⟨j, hj, he⟩ := List.getElem_of_mem hin
          have hjb : j < bs7.length := by rw [w3, ← List.length_map (f := (·.1)), hks]; exact hj
          have h2 := d2 j tag (bs7[j]) (by rw [List.getElem?_eq_getElem hj, he]) (by rw [List.getElem?_eq_getElem])
          rw [h2, if_pos (hall _ (List.getElem_mem _)), if_pos]
          rw [h1]
          refine Classical.byContradiction fun h3 => ?_
          rw [not_or] at h3
          rw [if_neg h3.1, if_neg h3.2] at hw7
          cases h5 : look wkv7 tag with
          | none => exact look_none h5 hin
          | some v =>
            obtain ⟨l', _, q, _⟩ := hT7.wsome tag v h5 (by simp)
            rw [hw7] at q; cases q
        · have hn8 : look wkv8 tag = none := by
            cases h5 : look wkv8 tag with
            | none => rfl
            | some v => exact absurd (by rw [← hks]; exact List.mem_map.2 ⟨_, look_mem h5, rfl⟩) hin
          have hn7 : look wkv7 tag = none := by
            cases h5 : look wkv7 tag with
            | none => rfl
            | some v => exact absurd (List.mem_map.2 ⟨_, look_mem h5, rfl⟩) hin
          rw [hT8.wnone tag hn8, if_neg]
          rw [h1]
          rw [hT7.wnone tag hn7] at hw7
          rintro (e | e)
          · rw [if_pos e] at hw7; cases hw7
          · rw [if_pos e] at hw7
            split at hw7 <;> cases hw7
      · intro i x k v hi hx hnd
        have St9 := St8.cset hg8 (.mapIter (some mw) ck7 (dn ++ [x]).toArray ck7)
        obtain ⟨it9, hle9⟩ := St9.cr hg8
        generalize h8.set r (.mapIter (some mw) ck7 (dn ++ [x]).toArray ck7) = h9 at *
        try simp (disch := first | omega | (simp only [PL]; omega)) only [PS, P1, P2, P3, P4, P5, P6, P7, P8, PA, PB, PC, Nat.reduceAdd, Nat.reduceSub, Nat.reduceMul, Nat.reduceLeDiff, Nat.reduceEqDiff, Nat.succ_ne_self, reduceCtorEq, Int.reduceToNat, Int.cast_ofNat_Int, Int.reduceEq, Int.reduceNe, Int.reduceLT, Int.reduceLE]
        refine i_ent (hT8.wm.le hle9) it9 hi hx ?_
        try simp (disch := first | omega | (simp only [PL]; omega)) only [PS, P1, P2, P3, P4, P5, P6, P7, P8, PA, PB, PC, Nat.reduceAdd, Nat.reduceSub, Nat.reduceMul, Nat.reduceLeDiff, Nat.reduceEqDiff, Nat.succ_ne_self, reduceCtorEq, Int.reduceToNat, Int.cast_ofNat_Int, Int.reduceEq, Int.reduceNe, Int.reduceLT, Int.reduceLE, encKS, id]
        obtain ⟨_, _, _, _, w4, _, w6⟩ := hT8.wm
        have hlk : look wkv8 k = some v := look_of_mem w6 (List.mem_of_getElem? hi)
        have hki : (wkv7.map (·.1))[i]? = some k := by rw [← hks, List.getElem?_map, hi]; rfl
        rw [hks] at w6
        obtain ⟨hT9, l0, hl0, hH9⟩ := hT8.hole_of hlk
        refine i_loop (fun s : Value × List Int => [some (.pointer (some ⟨b, 0, none⟩)), none, none, none, none, none, some (.string (str k)), some s.1, none, none, none, none, none, none, none, none, none, none, none, none, none, none, none, none, none, none, none, none, none, none, none, some (.pointer (some ⟨r, 0, none⟩)), none, none, none, none, none, none, none, none, none, none, none, none, none])
          (fun s h10 => ∃ g10, Step g h (join (cell1 r (.mapIter (some mw) ck7 (dn ++ [x]).toArray ck7)) g10) h10 ∧ g10 r = none ∧ TrG g10 b window need (EL ++ [l]) W8 (some k) ev' mw wkv8 bs7 ck7 gi5 ems5 ∧ HoleV g10 b mw wkv8 ev' gi5 k s.1 s.2 ∧ s.2.length ≤ EL.length ∧ (s.2 = wl window need EL k ∨ (¬ toldE EL k ∧ s.2 = List.replicate s.2.length (-1))))
          (fun s => EL.length - s.2.length) (v, l0) (by try simp only [Pe, and_true, true_and, and_self]) ⟨g8, St9, hg8, hT9, hH9, ?_⟩ ?_
        · have h1 := d2 i k x hki hx
          rw [if_neg hnd, hW7 k, hl0] at h1
          by_cases e : toldE EL k
          · rw [if_pos e] at h1; cases h1
            exact ⟨by simp [wl], .inl rfl⟩
          · rw [if_neg e] at h1
            by_cases e2 : toldIn l k
            · rw [if_pos e2] at h1; cases h1
              exact ⟨by simp, .inr ⟨e, rfl⟩⟩
            · rw [if_neg e2] at h1; cases h1
        rintro ⟨v1, l1⟩ h10 ⟨g10, St10, hg10, hT10, hH10, hl1, hl2⟩
        dsimp only at hH10 hl1 hl2
        obtain ⟨_, hle10⟩ := St10.cr hg10
        have Ro := (objAt.le hT10.obj hle10).rules
        have A2 : h10.cell ((⟨b, 0, none⟩ : Addr).add 2) = some ev' := Ro.1 2 (by simp)
        have Rl := ((SlB.sl (enc := encI) (sz := 1) (fun _ => rfl) (hH10.1.le hle10)).rules 1 (fun _ => rfl) default)
        have Re := ((SlB.sl (enc := encM) (sz := 1) (fun _ => rfl) (hT10.evs.le hle10)).rules 1 (fun _ => rfl) default)
        have hel := hT10.elen
        have hw : IntKind.i64.wrap ((ems5.length : Int) - 1) = (EL.length : Int) := by rw [hel]; simp only [List.length_append, List.length_cons, List.length_nil]; rw [w64 (by omega) (by omega)]; omega
        have O1 := hH10.1.one
        try simp (disch := first | omega | (simp only [PL]; omega)) only [PS, P1, P2, P3, P4, P5, P6, P7, P8, PA, PB, PC, Nat.reduceAdd, Nat.reduceSub, Nat.reduceMul, Nat.reduceLeDiff, Nat.reduceEqDiff, Nat.succ_ne_self, reduceCtorEq, Int.reduceToNat, Int.cast_ofNat_Int, Int.reduceEq, Int.reduceNe, Int.reduceLT, Int.reduceLE, A2, Rl, Re, hw]
        refine i_cond (fun c4 => ?_) (fun c4 => ?_)
        · try simp (disch := first | omega | (simp only [PL]; omega)) only [PS, P1, P2, P3, P4, P5, P6, P7, P8, PA, PB, PC, Nat.reduceAdd, Nat.reduceSub, Nat.reduceMul, Nat.reduceLeDiff, Nat.reduceEqDiff, Nat.succ_ne_self, reduceCtorEq, Int.reduceToNat, Int.cast_ofNat_Int, Int.reduceEq, Int.reduceNe, Int.reduceLT, Int.reduceLE, O1.1, O1.2]
          refine i_bslB encI 1 (fun _ => rfl) [-1] rfl rfl (by simp [maxLen]) fun x1 b1 h11 hle11 hb1 hx1 hS1 => ?_
          have O2 := hS1.one
          have hg11 := hle10.trans hle11
          try simp (disch := first | omega | (simp only [PL]; omega)) only [PS, P1, P2, P3, P4, P5, P6, P7, P8, PA, PB, PC, Nat.reduceAdd, Nat.reduceSub, Nat.reduceMul, Nat.reduceLeDiff, Nat.reduceEqDiff, Nat.succ_ne_self, reduceCtorEq, Int.reduceToNat, Int.cast_ofNat_Int, Int.reduceEq, Int.reduceNe, Int.reduceLT, Int.reduceLE, O2.1, O2.2]
          refine i_appB (enc := encI) (sz := 1) (g := g10) (l := l1) (l' := [-1]) (fun _ => rfl) (by simp [encI, one]) hH10.1 hg11 (SlB.sl (enc := encI) (sz := 1) (fun _ => rfl) (hS1.le (fr_le _ _))) (by simp; omega) fun v2 h12 g12 hS12 St12 e1 e2 e3 => ?_
          obtain ⟨hT12, hH12⟩ := HoleV.app hT10 hH10 hg11 (by simp) hS12 e1 e2
          obtain ⟨St13, hg13⟩ := St10.cpart hg10 ((Step.more hle10 hle11).trans St12)
          have O3 := hS12.one
          try simp (disch := first | omega | (simp only [PL]; omega)) only [PS, P1, P2, P3, P4, P5, P6, P7, P8, PA, PB, PC, Nat.reduceAdd, Nat.reduceSub, Nat.reduceMul, Nat.reduceLeDiff, Nat.reduceEqDiff, Nat.succ_ne_self, reduceCtorEq, Int.reduceToNat, Int.cast_ofNat_Int, Int.reduceEq, Int.reduceNe, Int.reduceLT, Int.reduceLE, O3.1, O3.2]
          refine k_loop (v2, l1 ++ [-1]) (by simp; omega) (by try simp only [Pe, and_true, true_and, and_self]) ⟨g12, St13, hg13, hT12, hH12, by simp; omega, ?_⟩
          rcases hl2 with h1 | ⟨h1, h2⟩
          · have : l1.length = EL.length := by rw [h1]; simp [wl]
            omega
          · refine .inr ⟨h1, ?_⟩
            rw [List.length_append, List.length_singleton, List.replicate_succ', ← h2]
        · have A3 : h10.cell ((⟨b, 0, none⟩ : Addr).add 3) = some (.map (some mw)) := Ro.1 3 (by simp)
          have hok' : TrOk window need (EL ++ [l]) := ⟨hok.w, hok.n, by simp; omega, fun l' hl' => by
            rw [List.mem_append, List.mem_singleton] at hl'
            rcases hl' with hl' | rfl
            · exact hok.ok l' hl'
            · exact ⟨hgood, hll⟩⟩
          try simp (disch := first | omega | (simp only [PL]; omega)) only [PS, P1, P2, P3, P4, P5, P6, P7, P8, PA, PB, PC, Nat.reduceAdd, Nat.reduceSub, Nat.reduceMul, Nat.reduceLeDiff, Nat.reduceEqDiff, Nat.succ_ne_self, reduceCtorEq, Int.reduceToNat, Int.cast_ofNat_Int, Int.reduceEq, Int.reduceNe, Int.reduceLT, Int.reduceLE, A3]
          refine i_call H60 ⟨⟨b, 0, none⟩, k, window, need, EL ++ [l], rfl, hT10.r hle10, hok', fun h11 hle11 => ?_⟩
          try simp (disch := first | omega | (simp only [PL]; omega)) only [PS, P1, P2, P3, P4, P5, P6, P7, P8, PA, PB, PC, Nat.reduceAdd, Nat.reduceSub, Nat.reduceMul, Nat.reduceLeDiff, Nat.reduceEqDiff, Nat.succ_ne_self, reduceCtorEq, Int.reduceToNat, Int.cast_ofNat_Int, Int.reduceEq, Int.reduceNe, Int.reduceLT, Int.reduceLE]
          obtain ⟨o1, ho1, hx1⟩ : ∃ o1, g10 b = some o1 ∧ objAt (cell1 b o1) ⟨b, 0, none⟩ [.int .i64 window, .int .i64 need, ev', .map (some mw)] := by
            obtain ⟨q1, c, t, q2, q3⟩ := hT10.obj
            exact ⟨_, q2, q1, c, t, by simp [cell1], q3⟩
          have hxle : ∀ {H : Heap}, H b = some o1 → Heap.le (cell1 b o1) H := by
            intro H hH y z hy
            simp only [cell1] at hy
            split at hy
            · rename_i e; cases hy; rw [e]; exact hH
            · cases hy
          have A3x : (cell1 b o1).cell ((⟨b, 0, none⟩ : Addr).add 3) = some (.map (some mw)) := hx1.rules.1 3 (by simp)
          have hb10 := hle10 _ _ ho1
          refine i_lex (cell1 b o1) (hxle hb10) ?_ (le_one (hxle (hle11 _ _ hb10))) ?_
          · intro l' hl'
            simp only [List.mem_singleton] at hl'
            subst hl'
            exact ⟨true, rfl, fun _ => ⟨.v (.map (some mw)), by try simp (disch := first | omega | (simp only [PL]; omega)) only [PS, P1, P2, P3, P4, P5, P6, P7, P8, PA, PB, PC, Nat.reduceAdd, Nat.reduceSub, Nat.reduceMul, Nat.reduceLeDiff, Nat.reduceEqDiff, Nat.succ_ne_self, reduceCtorEq, Int.reduceToNat, Int.cast_ofNat_Int, Int.reduceEq, Int.reduceNe, Int.reduceLT, Int.reduceLE, A3x]⟩⟩
          try simp (disch := first | omega | (simp only [PL]; omega)) only [PS, P1, P2, P3, P4, P5, P6, P7, P8, PA, PB, PC, Nat.reduceAdd, Nat.reduceSub, Nat.reduceMul, Nat.reduceLeDiff, Nat.reduceEqDiff, Nat.succ_ne_self, reduceCtorEq, Int.reduceToNat, Int.cast_ofNat_Int, Int.reduceEq, Int.reduceNe, Int.reduceLT, Int.reduceLE]
          refine i_bslB encI 1 (fun _ => rfl) [atE window need (EL ++ [l]) k] rfl rfl (by simp [maxLen]) fun x1 b1 h12 hle12 hb1 hx1 hS1 => ?_
          have O2 := hS1.one
          have hle1012 := hle11.trans hle12
          have hg12 := hle10.trans hle1012
          try simp (disch := first | omega | (simp only [PL]; omega)) only [PS, P1, P2, P3, P4, P5, P6, P7, P8, PA, PB, PC, Nat.reduceAdd, Nat.reduceSub, Nat.reduceMul, Nat.reduceLeDiff, Nat.reduceEqDiff, Nat.succ_ne_self, reduceCtorEq, Int.reduceToNat, Int.cast_ofNat_Int, Int.reduceEq, Int.reduceNe, Int.reduceLT, Int.reduceLE]
          refine i_lew (le_one (hxle (hle1012 _ _ hb10))) ?_
          have hvb : blkOf v1 ≠ some b := by
            obtain ⟨_, x, q1, q2, _⟩ := hH10.2
            all_goals (intro e; simp_all)
          try simp (disch := first | omega | (simp only [PL]; omega)) only [PS, P1, P2, P3, P4, P5, P6, P7, P8, PA, PB, PC, Nat.reduceAdd, Nat.reduceSub, Nat.reduceMul, Nat.reduceLeDiff, Nat.reduceEqDiff, Nat.succ_ne_self, reduceCtorEq, Int.reduceToNat, Int.cast_ofNat_Int, Int.reduceEq, Int.reduceNe, Int.reduceLT, Int.reduceLE, O1.1, O1.2, O2.1, O2.2]
          refine i_appB (enc := encI) (sz := 1) (g := g10) (l := l1) (l' := [atE window need (EL ++ [l]) k]) (fun _ => rfl) (by simp [encI, one]) hH10.1 hg12 (SlB.sl (enc := encI) (sz := 1) (fun _ => rfl) (hS1.le (fr_le _ _))) (by simp; omega) fun v2 h13 g13 hS13 St13 e1 e2 e3 => ?_
          obtain ⟨hT13, hH13⟩ := HoleV.app hT10 hH10 hg12 (by simp) hS13 e1 e2
          have O3 := hS13.one
          try simp (disch := first | omega | (simp only [PL]; omega)) only [PS, P1, P2, P3, P4, P5, P6, P7, P8, PA, PB, PC, Nat.reduceAdd, Nat.reduceSub, Nat.reduceMul, Nat.reduceLeDiff, Nat.reduceEqDiff, Nat.succ_ne_self, reduceCtorEq, Int.reduceToNat, Int.cast_ofNat_Int, Int.reduceEq, Int.reduceNe, Int.reduceLT, Int.reduceLE]
          refine i_lew (le_one (hxle (e3 _ _ (hle1012 _ _ hb10) hvb))) ?_
          try simp (disch := first | omega | (simp only [PL]; omega)) only [PS, P1, P2, P3, P4, P5, P6, P7, P8, PA, PB, PC, Nat.reduceAdd, Nat.reduceSub, Nat.reduceMul, Nat.reduceLeDiff, Nat.reduceEqDiff, Nat.succ_ne_self, reduceCtorEq, Int.reduceToNat, Int.cast_ofNat_Int, Int.reduceEq, Int.reduceNe, Int.reduceLT, Int.reduceLE, O3.1, O3.2]
          obtain ⟨hs13, y, y1, y2, y3, y4, y5, y6⟩ := hH13
          refine i_mupd (kb := .str) (ek := encKS) (ev := id) hT13.wm St13.le k v2 fun o bs' ck' p1 p2 p3 => ?_
          have hkin : k ∈ wkv8.map (·.1) := List.mem_map.2 ⟨_, List.mem_of_getElem? hi, rfl⟩
          obtain ⟨rfl, rfl⟩ := p3 hkin
          have hT14 := hT13.put (.inr rfl) hs13 y1 y2 y3 y4 y5 (fun t w hw hne => y6 t w hw hne) p1
          obtain ⟨St14, hg14⟩ := St10.cpart hg10 ((Step.more hle10 hle1012).trans (St13.trans p2))
          try simp (disch := first | omega | (simp only [PL]; omega)) only [PS, P1, P2, P3, P4, P5, P6, P7, P8, PA, PB, PC, Nat.reduceAdd, Nat.reduceSub, Nat.reduceMul, Nat.reduceLeDiff, Nat.reduceEqDiff, Nat.succ_ne_self, reduceCtorEq, Int.reduceToNat, Int.cast_ofNat_Int, Int.reduceEq, Int.reduceNe, Int.reduceLT, Int.reduceLE]
          refine k_loop (dn ++ [x]) (todo_lt (List.mem_of_getElem? hx) hnd) (by try simp only [Pe, and_true, true_and, and_self]) ⟨_, _, _, St14, hg14, hT14, ?_, ?_, ?_⟩
          · rw [upd_keys, if_pos hkin, hks]
          · intro z hz
            rw [List.mem_append, List.mem_singleton] at hz
            rcases hz with hz | rfl
            · exact d1 z hz
            · exact List.mem_of_getElem? hx
          · intro j k' x' a1 a2
            by_cases e : k' = k
            · subst e
              have hj := nodup_idx w6 a1 hki
              subst hj
              rw [hx] at a2; cases a2
              rw [if_pos rfl, if_pos (by simp), ← wl_snoc]
              rcases hl2 with h1 | ⟨h1, h2⟩
              · rw [h1]
              · rw [wl_none hok.n.1 h1, h2, show l1.length = EL.length by omega]
            · simp only [e, if_false]
              rw [d2 j k' x' a1 a2]
              have hxx : x' ≠ x := by
                rintro rfl
                have hj := nodup_idx w4 a2 hx
                subst hj
                rw [hki] at a1; cases a1; exact e rfl
              simp [hxx]
end Go.Cw
namespace Go.Cw
open Go
def newBad (w n : Int) : Prop := w < 1 ∨ 8 < w ∨ n < 1 ∨ w < n
instance (w n : Int) : Decidable (newBad w n) := by unfold newBad; infer_instance
def S28 (N : Num) : Spec := fun args h K => ∃ w n, args = [.int .i64 w, .int .i64 n] ∧
  (newBad w n → ∀ h', Heap.le h h' → K (.tuple #[.pointer none, errV N 1]) h') ∧
  (¬ newBad w n → ∀ b h', h b = none → Heap.le h h' → TrO (fr h h') b w.toNat n.toNat [] → K (.tuple #[.pointer (some ⟨b, 0, none⟩), .nilIface]) h')
theorem F28_ok {N : Num} {Γ : Ctx} [GoodC Γ] : Sat (S28 N) (SF N Γ F28) := by
  rintro _ h K ⟨w, n, rfl, hK1, hK2⟩
  refine i_fun rfl ?_
  simp only [F28, env0, List.map, List.length, List.replicate, List.cons_append, List.nil_append, Nat.reduceSub, Nat.reduceAdd]
  try simp (disch := first | omega | (simp only [PL]; omega)) only [PS, P1, P2, P3, P4, P5, P6, P7, P8, PA, PB, PC, Nat.reduceAdd, Nat.reduceSub, Nat.reduceMul, Nat.reduceLeDiff, Nat.reduceEqDiff, Nat.succ_ne_self, reduceCtorEq, Int.reduceToNat, Int.cast_ofNat_Int, Int.reduceEq, Int.reduceNe, Int.reduceLT, Int.reduceLE]
  refine i_cond (fun c1 => ?_) (fun c1 => ?_)
  · try simp (disch := first | omega | (simp only [PL]; omega)) only [PS, P1, P2, P3, P4, P5, P6, P7, P8, PA, PB, PC, Nat.reduceAdd, Nat.reduceSub, Nat.reduceMul, Nat.reduceLeDiff, Nat.reduceEqDiff, Nat.succ_ne_self, reduceCtorEq, Int.reduceToNat, Int.cast_ofNat_Int, Int.reduceEq, Int.reduceNe, Int.reduceLT, Int.reduceLE]
    exact hK1 (by unfold newBad; omega) h (Heap.le.refl h)
  · try simp (disch := first | omega | (simp only [PL]; omega)) only [PS, P1, P2, P3, P4, P5, P6, P7, P8, PA, PB, PC, Nat.reduceAdd, Nat.reduceSub, Nat.reduceMul, Nat.reduceLeDiff, Nat.reduceEqDiff, Nat.succ_ne_self, reduceCtorEq, Int.reduceToNat, Int.cast_ofNat_Int, Int.reduceEq, Int.reduceNe, Int.reduceLT, Int.reduceLE]
    refine i_mnew (ek := encKS) (ev := (id : Value → Value)) fun m h1 hm0 hle1 hmE => ?_
    try simp (disch := first | omega | (simp only [PL]; omega)) only [PS, P1, P2, P3, P4, P5, P6, P7, P8, PA, PB, PC, Nat.reduceAdd, Nat.reduceSub, Nat.reduceMul, Nat.reduceLeDiff, Nat.reduceEqDiff, Nat.succ_ne_self, reduceCtorEq, Int.reduceToNat, Int.cast_ofNat_Int, Int.reduceEq, Int.reduceNe, Int.reduceLT, Int.reduceLE]
    refine i_newO fun b h2 hle2 hb ho => ?_
    try simp (disch := first | omega | (simp only [PL]; omega)) only [PS, P1, P2, P3, P4, P5, P6, P7, P8, PA, PB, PC, Nat.reduceAdd, Nat.reduceSub, Nat.reduceMul, Nat.reduceLeDiff, Nat.reduceEqDiff, Nat.succ_ne_self, reduceCtorEq, Int.reduceToNat, Int.cast_ofNat_Int, Int.reduceEq, Int.reduceNe, Int.reduceLT, Int.reduceLE]
    simp only [newBad] at hK2
    have hbm : b ≠ m := by
      rintro rfl
      exact (hmE.le (fr_le _ _)).mem hb
    refine hK2 (by omega) b h2 (le_none hle1 b hb) (hle1.trans hle2) ⟨fun _ => none, .slice none 0 0, m, [], [], 0, fun _ => none, [], ⟨?_, SlB.nil, hmE.le (fr_mono hle2), fun _ _ => rfl, fun t v h => by simp [look_nil] at h, fun t t' v v' h => by simp [look_nil] at h, hbm, ⟨by simp [blkOf], by simp [blkOf]⟩, rfl, fun i hi => by simp at hi, fun y o hy => (by cases hy), rfl, rfl, fun _ _ => rfl⟩, fun tag => by simp [toldE]⟩
    have h3 := ho.le (fr_fr hle1)
    have e1 : ((w.toNat : Nat) : Int) = w := by omega
    have e2 : ((n.toNat : Nat) : Int) = n := by omega
    rw [e1, e2]
    exact h3
def S31 : Spec := fun args h K => ∃ g b window need EL, args = [.pointer (some ⟨b, 0, none⟩)] ∧ TrO g b window need EL ∧ Heap.le g h ∧ K (.int .i64 EL.length) h
theorem F31_ok {N : Num} {Γ : Ctx} [GoodC Γ] : Sat S31 (SF N Γ F31) := by
  rintro _ h K ⟨g, b, window, need, EL, rfl, ⟨W, ev, mw, wkv, bs, ck, gi, ems, hT, hW⟩, hg, hK⟩
  refine i_fun rfl ?_
  simp only [F31, env0, List.map, List.length, List.replicate, List.cons_append, List.nil_append, Nat.reduceSub, Nat.reduceAdd]
  have A2 : h.cell ((⟨b, 0, none⟩ : Addr).add 2) = some ev := (objAt.le hT.obj hg).rules.1 2 (by simp)
  have Re := ((SlB.sl (enc := encM) (sz := 1) (fun _ => rfl) (hT.evs.le hg)).rules 1 (fun _ => rfl) default)
  have hel := hT.elen
  try simp (disch := first | omega | (simp only [PL]; omega)) only [PS, P1, P2, P3, P4, P5, P6, P7, P8, PA, PB, PC, Nat.reduceAdd, Nat.reduceSub, Nat.reduceMul, Nat.reduceLeDiff, Nat.reduceEqDiff, Nat.succ_ne_self, reduceCtorEq, Int.reduceToNat, Int.cast_ofNat_Int, Int.reduceEq, Int.reduceNe, Int.reduceLT, Int.reduceLE, A2, Re, hel]
  exact hK
def S30 (N : Num) : Spec := fun args h K => ∃ g b window need EL tag e, args = [.pointer (some ⟨b, 0, none⟩), .string (str tag), .int .i64 e] ∧ TrO g b window need EL ∧ Heap.le g h ∧
  ((e < 0 ∨ (EL.length : Int) ≤ e) → K (.tuple #[.int .i64 0, errV N 1]) h) ∧
  (0 ≤ e → e < EL.length → ¬ toldE EL tag → K (.tuple #[.int .i64 0, errV N 5]) h) ∧
  (0 ≤ e → e < EL.length → toldE EL tag → K (.tuple #[.int .i64 (atE window need (EL.take (e.toNat + 1)) tag), .nilIface]) h)
theorem MapB.lkpos {h : Heap} {m : Nat} {kv : List (List UInt8 × Value)} {bs : List Nat} {ck : Nat} (hm : MapB encKS id h m kv bs ck) (k : List UInt8) : o2V h (.lkpo .str (.slice none 0 0)) (.v (.map (some m))) (.v (.string (str k))) = some (.v (.tuple #[(look kv k).getD (.slice none 0 0), .bool (look kv k).isSome])) := by
  have := (hm.rules .str).2.1 (.slice none 0 0) k
  rw [show (Value.string (str k)) = encKS k from rfl, this]
  cases look kv k <;> rfl
theorem F30_ok {N : Num} {Γ : Ctx} [GoodC Γ] : Sat (S30 N) (SF N Γ F30) := by
  rintro _ h K ⟨g, b, window, need, EL, tag, e, rfl, ⟨W, ev, mw, wkv, bs, ck, gi, ems, hT, hW⟩, hg, hK1, hK2, hK3⟩
  refine i_fun rfl ?_
  simp only [F30, env0, List.map, List.length, List.replicate, List.cons_append, List.nil_append, Nat.reduceSub, Nat.reduceAdd]
  have A2 : h.cell ((⟨b, 0, none⟩ : Addr).add 2) = some ev := (objAt.le hT.obj hg).rules.1 2 (by simp)
  have A3 : h.cell ((⟨b, 0, none⟩ : Addr).add 3) = some (.map (some mw)) := (objAt.le hT.obj hg).rules.1 3 (by simp)
  have Re := ((SlB.sl (enc := encM) (sz := 1) (fun _ => rfl) (hT.evs.le hg)).rules 1 (fun _ => rfl) default)
  have hel := hT.elen
  have Rk := (hT.wm.le hg).lkpos tag
  have hWt := hW tag
  try simp (disch := first | omega | (simp only [PL]; omega)) only [PS, P1, P2, P3, P4, P5, P6, P7, P8, PA, PB, PC, Nat.reduceAdd, Nat.reduceSub, Nat.reduceMul, Nat.reduceLeDiff, Nat.reduceEqDiff, Nat.succ_ne_self, reduceCtorEq, Int.reduceToNat, Int.cast_ofNat_Int, Int.reduceEq, Int.reduceNe, Int.reduceLT, Int.reduceLE, A2, Re, hel]
  refine i_cond (fun c1 => ?_) (fun c1 => ?_)
  · try simp (disch := first | omega | (simp only [PL]; omega)) only [PS, P1, P2, P3, P4, P5, P6, P7, P8, PA, PB, PC, Nat.reduceAdd, Nat.reduceSub, Nat.reduceMul, Nat.reduceLeDiff, Nat.reduceEqDiff, Nat.succ_ne_self, reduceCtorEq, Int.reduceToNat, Int.cast_ofNat_Int, Int.reduceEq, Int.reduceNe, Int.reduceLT, Int.reduceLE]
    exact hK1 (by omega)
  · cases hlk : look wkv tag with
    | none =>
      rw [hlk] at Rk
      try simp (disch := first | omega | (simp only [PL]; omega)) only [PS, P1, P2, P3, P4, P5, P6, P7, P8, PA, PB, PC, Nat.reduceAdd, Nat.reduceSub, Nat.reduceMul, Nat.reduceLeDiff, Nat.reduceEqDiff, Nat.succ_ne_self, reduceCtorEq, Int.reduceToNat, Int.cast_ofNat_Int, Int.reduceEq, Int.reduceNe, Int.reduceLT, Int.reduceLE, A3, Rk]
      refine hK2 (by omega) (by omega) fun e => ?_
      rw [hT.wnone tag hlk, if_pos e] at hWt; cases hWt
    | some v =>
      rw [hlk] at Rk
      obtain ⟨l, x, q1, q2, q3, _⟩ := hT.wsome tag v hlk (by simp)
      have Rv := ((SlB.sl (enc := encI) (sz := 1) (fun _ => rfl) (q2.le hg)).rules1 (fun n => .int .i64 n) (fun _ => rfl) default)
      have ht : toldE EL tag := by
        refine Classical.byContradiction fun h3 => ?_
        rw [if_neg h3, q1] at hWt; cases hWt
      rw [if_pos ht, q1] at hWt
      cases hWt
      obtain ⟨i, rfl⟩ : ∃ i : Nat, e = i := ⟨e.toNat, by omega⟩
      have hwl : (wl window need EL tag).length = EL.length := by simp [wl]
      have hge : (wl window need EL tag).getD i default = atE window need (EL.take (i + 1)) tag := by
        rw [List.getD_eq_getElem?_getD, List.getElem?_eq_getElem (by omega)]
        simp [wl]
      rw [hwl] at Rv
      have hi : i < EL.length := by omega
      try simp (disch := first | omega | (simp only [PL]; omega)) only [PS, P1, P2, P3, P4, P5, P6, P7, P8, PA, PB, PC, Nat.reduceAdd, Nat.reduceSub, Nat.reduceMul, Nat.reduceLeDiff, Nat.reduceEqDiff, Nat.succ_ne_self, reduceCtorEq, Int.reduceToNat, Int.cast_ofNat_Int, Int.reduceEq, Int.reduceNe, Int.reduceLT, Int.reduceLE, A3, Rk, Rv, hge, encI]
      exact hK3 (by omega) (by omega) ht
end Go.Cw
namespace Go.Cw
open Go
def encV (v : Value) : List Value := [v]
def SS (h : Heap) (v : Value) (L : List (List Si)) : Prop := ∃ vs : List Value, Sl encV h v vs ∧ vs.length = L.length ∧ ∀ i, i < L.length → Sl Si.enc h (vs.getD i undef) (L.getD i [])
theorem SS.le {h h' : Heap} {v : Value} {L : List (List Si)} (hs : SS h v L) (hl : Heap.le h h') : SS h' v L := by
  obtain ⟨vs, h1, h2, h3⟩ := hs; exact ⟨vs, h1.le hl, h2, fun i hi => (h3 i hi).le hl⟩
def light (L : List (List Si)) : Prop := L.length ≤ 25 ∧ ∀ l ∈ L, l.length ≤ 25
end Go.Cw
namespace Go.Cw
open Go
structure RowI (who : List UInt8) (R : List (List Si)) (p : Int) (sn at_ one : Int) (single : Bool) : Prop where
  cnt : at_ = cntE R who p
  hn : sn = (R.filter fun l => !l.isEmpty).length
  ho : (one = -1 ∧ ∀ l ∈ R, l = []) ∨ ∃ l ∈ R, ∃ s ∈ l, s.place = one
  sg : single = true → ∀ l ∈ R, ∀ s ∈ l, s.place = one
structure RowJ (who : List UInt8) (R : List (List Si)) (row : List Si) (p : Int) (sn at_ one : Int) (single here : Bool) : Prop where
  cnt : at_ = cntE R who p
  hn : sn = (R.filter fun l => !l.isEmpty).length
  ho : (one = -1 ∧ ∀ l ∈ R ++ [row], l = []) ∨ ∃ l ∈ R ++ [row], ∃ s ∈ l, s.place = one
  sg : single = true → ∀ l ∈ R ++ [row], ∀ s ∈ l, s.place = one
  hr : here = true ↔ ∃ s ∈ row, s.place = p
theorem RowI.j {who : List UInt8} {R : List (List Si)} {p sn at_ one : Int} {single : Bool} (h : RowI who R p sn at_ one single) : RowJ who R [] p sn at_ one single false := by
  refine ⟨h.cnt, h.hn, ?_, ?_, by simp⟩
  · rcases h.ho with ⟨h1, h2⟩ | ⟨l, hl, s, hs, e⟩
    · refine .inl ⟨h1, fun l hl => ?_⟩
      rw [List.mem_append, List.mem_singleton] at hl
      exact hl.elim (h2 l) id
    · exact .inr ⟨l, by simp [hl], s, hs, e⟩
  · intro hs l hl s hsl
    rw [List.mem_append, List.mem_singleton] at hl
    rcases hl with hl | rfl
    · exact h.sg hs l hl s hsl
    · cases hsl
theorem RowJ.step {who : List UInt8} {R : List (List Si)} {row : List Si} {p sn at_ one : Int} {single here : Bool} (h : RowJ who R row p sn at_ one single here) (s : Si) {single' here' : Bool} (h0 : ∀ l ∈ R ++ [row], ∀ s ∈ l, 0 ≤ s.place)
    (h1 : single' = true → single = true ∧ (one < 0 ∨ one = s.place)) (h2 : here' = true ↔ here = true ∨ s.place = p) : RowJ who R (row ++ [s]) p sn at_ s.place single' here' := by
  refine ⟨h.cnt, h.hn, .inr ⟨row ++ [s], by simp, s, by simp, rfl⟩, fun hs l hl x hx => ?_, ?_⟩
  · obtain ⟨k1, k2⟩ := h1 hs
    have hmem : (∃ l' ∈ R ++ [row], x ∈ l') ∨ x = s := by
      rw [List.mem_append, List.mem_singleton] at hl
      rcases hl with hl | rfl
      · exact .inl ⟨l, by simp [hl], hx⟩
      · rw [List.mem_append, List.mem_singleton] at hx
        exact hx.imp (fun hx => ⟨row, by simp, hx⟩) id
    rcases hmem with ⟨l', hl', hx'⟩ | rfl
    · have e := h.sg k1 l' hl' x hx'
      have := h0 l' hl' x hx'
      omega
    · rfl
  · rw [h2, h.hr]
    constructor
    · rintro (⟨x, hx, e⟩ | e)
      · exact ⟨x, by simp [hx], e⟩
      · exact ⟨s, by simp, e⟩
    · rintro ⟨x, hx, e⟩
      rw [List.mem_append, List.mem_singleton] at hx
      rcases hx with hx | rfl
      · exact .inl ⟨x, hx, e⟩
      · exact .inr e
theorem RowJ.i {who : List UInt8} {R : List (List Si)} {row : List Si} {p sn at_ one : Int} {single here : Bool} (h : RowJ who R row p sn at_ one single here) (hw : ∀ s ∈ row, s.tag = who) :
    RowI who (R ++ [row]) p (sn + if 0 < row.length then 1 else 0) (at_ + if here = true then 1 else 0) one single := by
  refine ⟨?_, ?_, h.ho, h.sg⟩
  · rw [cntE_snoc, h.cnt]
    have : here = true ↔ seen row who p := by
      rw [h.hr]; exact ⟨fun ⟨s, hs, e⟩ => ⟨s, hs, hw s hs, e⟩, fun ⟨s, hs, _, e⟩ => ⟨s, hs, e⟩⟩
    by_cases e : seen row who p
    · rw [if_pos (this.2 e), if_pos e]; rfl
    · rw [if_neg (fun h => e (this.1 h)), if_neg e]; rfl
  · rw [List.filter_append, List.length_append, h.hn]
    cases row <;> simp
theorem RowI.zero (who : List UInt8) (p : Int) : RowI who [] p 0 0 (-1) true := ⟨rfl, rfl, .inl ⟨rfl, by simp⟩, by simp⟩
end Go.Cw
namespace Go.Cw
open Go
def RTr (h : Heap) (a : Addr) (window need : Nat) (E : List (List Si)) : Prop := ∃ ev fv, objAt h a [.int .i64 window, .int .i64 need, ev, fv] ∧ SS h ev E ∧ E.length ≤ 1000 ∧ ∀ l ∈ E, l.length ≤ 1000
def S55 : Spec := fun args h K => ∃ a tag window need E u, args = [.pointer (some a), .string (str tag), .int .i64 u] ∧ RTr h a window need E ∧ K (.bool (decide (toldE (E.take (u + 1).toNat) tag))) h
theorem F55_ok {N : Num} {Γ : Ctx} [GoodC Γ] : Sat S55 (SF N Γ F55) := by
  rintro _ h K ⟨a, tag, window, need, E, u, rfl, ⟨ev, fv, ha, ⟨vs, hv, hvl, hr⟩, hE, hEl⟩, hK⟩
  refine i_fun rfl ?_
  simp only [F55, env0, List.map, List.length, List.replicate, List.cons_append, List.nil_append, Nat.reduceSub, Nat.reduceAdd]
  have A2 : h.cell (a.add 2) = some ev := ha.rules.1 2 (by simp)
  have R := hv.rules1 id (fun _ => rfl) undef
  rw [hvl] at R
  try simp (disch := first | omega | (simp only [PL]; omega)) only [PS, P1, P2, P3, P4, P5, P6, P7, P8, PA, PB, PC, Nat.reduceAdd, Nat.reduceSub, Nat.reduceMul, Nat.reduceLeDiff, Nat.reduceEqDiff, Nat.succ_ne_self, reduceCtorEq, Int.reduceToNat, Int.cast_ofNat_Int, Int.reduceEq, Int.reduceNe, Int.reduceLT, Int.reduceLE]
  refine i_loop (fun e : Nat => [some (.pointer (some a)), some (.string (str tag)), some (.int .i64 u), none, some (.int .i64 e), none, none, none, none]) (fun e h1 => h1 = h ∧ e ≤ E.length ∧ (e : Int) ≤ max 0 (u + 1) ∧ ¬ toldE (E.take e) tag) (fun e => E.length - e) 0 (by try simp only [Pe, and_true, true_and, and_self]; rfl) ⟨rfl, by omega, by omega, by simp [toldE]⟩ ?_
  rintro e h1 ⟨rfl, he, heu, hn⟩
  try simp (disch := first | omega | (simp only [PL]; omega)) only [PS, P1, P2, P3, P4, P5, P6, P7, P8, PA, PB, PC, Nat.reduceAdd, Nat.reduceSub, Nat.reduceMul, Nat.reduceLeDiff, Nat.reduceEqDiff, Nat.succ_ne_self, reduceCtorEq, Int.reduceToNat, Int.cast_ofNat_Int, Int.reduceEq, Int.reduceNe, Int.reduceLT, Int.reduceLE, A2, R]
  refine i_cond (fun c1 => ?_) (fun c1 => ?_)
  · have he2 : e < E.length := by omega
    have Re := (hr e he2).rules 4 Si.enc_len default
    have hle := hEl _ (getD_mem [] he2)
    try simp (disch := first | omega | (simp only [PL]; omega)) only [PS, P1, P2, P3, P4, P5, P6, P7, P8, PA, PB, PC, Nat.reduceAdd, Nat.reduceSub, Nat.reduceMul, Nat.reduceLeDiff, Nat.reduceEqDiff, Nat.succ_ne_self, reduceCtorEq, Int.reduceToNat, Int.cast_ofNat_Int, Int.reduceEq, Int.reduceNe, Int.reduceLT, Int.reduceLE]
    refine i_loop (fun i : Nat => [some (.pointer (some a)), some (.string (str tag)), some (.int .i64 u), none, some (.int .i64 e), some (.int .i64 i), none, none, none]) (fun i h2 => h2 = h1 ∧ i ≤ (E.getD e []).length ∧ ∀ s ∈ (E.getD e []).take i, s.tag ≠ tag) (fun i => (E.getD e []).length - i) 0 (by try simp only [Pe, and_true, true_and, and_self]; rfl) ⟨rfl, by omega, by simp⟩ ?_
    rintro i h2 ⟨rfl, hi, hni⟩
    try simp (disch := first | omega | (simp only [PL]; omega)) only [PS, P1, P2, P3, P4, P5, P6, P7, P8, PA, PB, PC, Nat.reduceAdd, Nat.reduceSub, Nat.reduceMul, Nat.reduceLeDiff, Nat.reduceEqDiff, Nat.succ_ne_self, reduceCtorEq, Int.reduceToNat, Int.cast_ofNat_Int, Int.reduceEq, Int.reduceNe, Int.reduceLT, Int.reduceLE, A2, R, id, Re]
    refine i_cond (fun c2 => ?_) (fun c2 => ?_)
    · have hi2 : i < (E.getD e []).length := by omega
      try simp (disch := first | omega | (simp only [PL]; omega)) only [PS, P1, P2, P3, P4, P5, P6, P7, P8, PA, PB, PC, Nat.reduceAdd, Nat.reduceSub, Nat.reduceMul, Nat.reduceLeDiff, Nat.reduceEqDiff, Nat.succ_ne_self, reduceCtorEq, Int.reduceToNat, Int.cast_ofNat_Int, Int.reduceEq, Int.reduceNe, Int.reduceLT, Int.reduceLE, A2, R, id, Re, Si.enc]
      refine i_cond (fun c3 => ?_) (fun c3 => ?_)
      · try simp (disch := first | omega | (simp only [PL]; omega)) only [PS, P1, P2, P3, P4, P5, P6, P7, P8, PA, PB, PC, Nat.reduceAdd, Nat.reduceSub, Nat.reduceMul, Nat.reduceLeDiff, Nat.reduceEqDiff, Nat.succ_ne_self, reduceCtorEq, Int.reduceToNat, Int.cast_ofNat_Int, Int.reduceEq, Int.reduceNe, Int.reduceLT, Int.reduceLE]
        have ht : toldE (E.take (u + 1).toNat) tag := ⟨E.getD e [], by
          rw [List.mem_take_iff_getElem]
          exact ⟨e, by omega, by simp [List.getD_eq_getElem?_getD, he2]⟩, _, getD_mem default hi2, c3⟩
        rw [decide_eq_true ht] at hK
        exact hK
      · try simp (disch := first | omega | (simp only [PL]; omega)) only [PS, P1, P2, P3, P4, P5, P6, P7, P8, PA, PB, PC, Nat.reduceAdd, Nat.reduceSub, Nat.reduceMul, Nat.reduceLeDiff, Nat.reduceEqDiff, Nat.succ_ne_self, reduceCtorEq, Int.reduceToNat, Int.cast_ofNat_Int, Int.reduceEq, Int.reduceNe, Int.reduceLT, Int.reduceLE]
        refine k_loop (i + 1) (by omega) (by try simp only [Pe, and_true, true_and, and_self]) ⟨rfl, by omega, fun s hs => ?_⟩
        rw [take_succ_d default hi2, List.mem_append, List.mem_singleton] at hs
        rcases hs with hs | rfl
        · exact hni s hs
        · exact c3
    · try simp (disch := first | omega | (simp only [PL]; omega)) only [PS, P1, P2, P3, P4, P5, P6, P7, P8, PA, PB, PC, Nat.reduceAdd, Nat.reduceSub, Nat.reduceMul, Nat.reduceLeDiff, Nat.reduceEqDiff, Nat.succ_ne_self, reduceCtorEq, Int.reduceToNat, Int.cast_ofNat_Int, Int.reduceEq, Int.reduceNe, Int.reduceLT, Int.reduceLE]
      refine k_loop (e + 1) (by omega) (by try simp only [Pe, and_true, true_and, and_self]) ⟨rfl, by omega, by omega, ?_⟩
      rw [take_succ_d [] he2]
      rintro ⟨l, hl, s, hs, h3⟩
      rw [List.mem_append, List.mem_singleton] at hl
      rcases hl with hl | rfl
      · exact hn ⟨l, hl, s, hs, h3⟩
      · exact hni s (by rw [List.take_of_length_le (by omega)]; exact hs) h3
  · try simp (disch := first | omega | (simp only [PL]; omega)) only [PS, P1, P2, P3, P4, P5, P6, P7, P8, PA, PB, PC, Nat.reduceAdd, Nat.reduceSub, Nat.reduceMul, Nat.reduceLeDiff, Nat.reduceEqDiff, Nat.succ_ne_self, reduceCtorEq, Int.reduceToNat, Int.cast_ofNat_Int, Int.reduceEq, Int.reduceNe, Int.reduceLT, Int.reduceLE]
    have ht : ¬ toldE (E.take (u + 1).toNat) tag := by
      have : E.take (u + 1).toNat = E.take e := by
        by_cases c : e < E.length
        · have : (u + 1).toNat = e := by omega
          rw [this]
        · rw [List.take_of_length_le (by omega), List.take_of_length_le (by omega)]
      rw [this]; exact hn
    rw [decide_eq_false ht] at hK
    exact hK
end Go.Cw
namespace Go.Cw
open Go
def S111 : Spec := fun args h K => ∃ a tag window need E e p, args = [.pointer (some a), .string (str tag), .int .i64 p, .int .i64 (e : Nat)] ∧ RTr h a window need E ∧ 1 ≤ window ∧ window ≤ 8 ∧ (∀ l ∈ E, ∀ s ∈ l, ¬ s.bad) ∧ e < E.length ∧
  K (.tuple #[.int .i64 (cntE ((E.take (e + 1)).drop (e + 1 - window)) tag p), .int .i64 (strE ((E.take (e + 1)).drop (e + 1 - window)) tag p)]) h
theorem F111_ok {N : Num} {Γ : Ctx} [GoodC Γ] : Sat S111 (SF N Γ F111) := by
  rintro _ h K ⟨a, tag, window, need, E, e, p, rfl, ⟨ev, fv, ha, ⟨vs, hv, hvl, hr⟩, hE, hEl⟩, w1, w2, hg, he, hK⟩
  refine i_fun rfl ?_
  simp only [F111, env0, List.map, List.length, List.replicate, List.cons_append, List.nil_append, Nat.reduceSub, Nat.reduceAdd]
  have A2 : h.cell (a.add 2) = some ev := ha.rules.1 2 (by simp)
  have A0 : h.cell (a.add 0) = some (.int .i64 window) := ha.rules.1 0 (by simp)
  have A0' : h.cell a = some (.int .i64 window) := ha.rules.2.1 (by simp)
  have R := hv.rules1 id (fun _ => rfl) undef
  rw [hvl] at R
  have hw3 : IntKind.i64.wrap ((e : Int) - window) = (e : Int) - window := w64 (by omega) (by omega)
  have hw4 : IntKind.i64.wrap ((e : Int) - window + 1) = (e : Int) - window + 1 := w64 (by omega) (by omega)
  have hmaxe : max (0 : Int) ((e : Int) - window + 1) = ((e + 1 - window : Nat) : Int) := by omega
  try simp (disch := first | omega | (simp only [PL]; omega)) only [PS, P1, P2, P3, P4, P5, P6, P7, P8, PA, PB, PC, Nat.reduceAdd, Nat.reduceSub, Nat.reduceMul, Nat.reduceLeDiff, Nat.reduceEqDiff, Nat.succ_ne_self, reduceCtorEq, Int.reduceToNat, Int.cast_ofNat_Int, Int.reduceEq, Int.reduceNe, Int.reduceLT, Int.reduceLE, A0, A0', hw3, hw4, hmaxe]
  generalize hlo : e + 1 - window = lo at *
  refine i_loop (fun s : Nat × Int × Int => [some (.pointer (some a)), some (.string (str tag)), some (.int .i64 p), some (.int .i64 e), none, none, some (.int .i64 s.2.1), some (.int .i64 s.2.2), some (.int .i64 s.1), none, none, none, none, none, none, none, none])
    (fun s h1 => Heap.le h h1 ∧ h1 = h ∧ lo ≤ s.1 ∧ s.1 ≤ e + 1 ∧ s.2.1 = cntE ((E.take s.1).drop lo) tag p ∧ s.2.2 = strE ((E.take s.1).drop lo) tag p) (fun s => e + 1 - s.1) (lo, 0, 0) (by try simp only [Pe, and_true, true_and, and_self]) ⟨Heap.le.refl h, rfl, Nat.le_refl _, by dsimp only; omega, ?_, ?_⟩ ?_
  · rw [List.drop_eq_nil_of_le (by rw [List.length_take]; omega)]; rfl
  · rw [List.drop_eq_nil_of_le (by rw [List.length_take]; omega)]; rfl
  rintro ⟨k, n, sm⟩ h1 ⟨_, rfl, hk1, hk2, hn, hs⟩
  dsimp only at hk1 hk2 hn hs
  try simp (disch := first | omega | (simp only [PL]; omega)) only [PS, P1, P2, P3, P4, P5, P6, P7, P8, PA, PB, PC, Nat.reduceAdd, Nat.reduceSub, Nat.reduceMul, Nat.reduceLeDiff, Nat.reduceEqDiff, Nat.succ_ne_self, reduceCtorEq, Int.reduceToNat, Int.cast_ofNat_Int, Int.reduceEq, Int.reduceNe, Int.reduceLT, Int.reduceLE]
  refine i_cond (fun c1 => ?_) (fun c1 => ?_)
  rotate_left
  · have : k = e + 1 := by omega
    subst this
    subst hn hs
    try simp (disch := first | omega | (simp only [PL]; omega)) only [PS, P1, P2, P3, P4, P5, P6, P7, P8, PA, PB, PC, Nat.reduceAdd, Nat.reduceSub, Nat.reduceMul, Nat.reduceLeDiff, Nat.reduceEqDiff, Nat.succ_ne_self, reduceCtorEq, Int.reduceToNat, Int.cast_ofNat_Int, Int.reduceEq, Int.reduceNe, Int.reduceLT, Int.reduceLE]
    exact hK
  have hk3 : k < E.length := by omega
  have Rk := (hr k hk3).rules 4 Si.enc_len default
  have hle := hEl _ (getD_mem [] hk3)
  have hrow := hg _ (getD_mem [] hk3)
  have hsnoc : (E.take (k + 1)).drop lo = (E.take k).drop lo ++ [E.getD k []] := by
    rw [take_succ_d [] hk3, List.drop_append_of_le_length (by rw [List.length_take]; omega)]
  have hb := strE_bound (W := (E.take k).drop lo) (fun l hl => ⟨hg l (List.mem_of_mem_take (List.mem_of_mem_drop hl)), by have := hEl l (List.mem_of_mem_take (List.mem_of_mem_drop hl)); omega⟩) tag p
  have hcl := cntE_le ((E.take k).drop lo) tag p
  have hWl : ((E.take k).drop lo).length ≤ 1000 := by rw [List.length_drop, List.length_take]; omega
  have hn' : (cntE ((E.take (k + 1)).drop lo) tag p : Int) = n + if seen (E.getD k []) tag p then 1 else 0 := by
    rw [hsnoc, cntE_snoc, hn]; split <;> rfl
  have hs' : strE ((E.take (k + 1)).drop lo) tag p = sm + sumS (E.getD k []) tag p := by rw [hsnoc, strE_snoc, hs]
  rw [← hs] at hb
  generalize hrw : E.getD k [] = row at *
  try simp (disch := first | omega | (simp only [PL]; omega)) only [PS, P1, P2, P3, P4, P5, P6, P7, P8, PA, PB, PC, Nat.reduceAdd, Nat.reduceSub, Nat.reduceMul, Nat.reduceLeDiff, Nat.reduceEqDiff, Nat.succ_ne_self, reduceCtorEq, Int.reduceToNat, Int.cast_ofNat_Int, Int.reduceEq, Int.reduceNe, Int.reduceLT, Int.reduceLE]
  refine i_loop (fun s : Nat × Bool × Int => [some (.pointer (some a)), some (.string (str tag)), some (.int .i64 p), some (.int .i64 e), none, none, some (.int .i64 n), some (.int .i64 s.2.2), some (.int .i64 k), some (.bool (decide (s.2.1 = true))), some (.int .i64 s.1), none, none, none, none, none, none])
    (fun s h2 => h2 = h1 ∧ s.1 ≤ row.length ∧ (s.2.1 = true ↔ seen (row.take s.1) tag p) ∧ s.2.2 = sm + sumS (row.take s.1) tag p) (fun s => row.length - s.1) (0, false, sm) (by try simp only [Pe, and_true, true_and, and_self]; simp) ⟨rfl, Nat.zero_le _, by simp [seen], by simp [sumS]⟩ ?_
  rintro ⟨i, sb, sm'⟩ h2 ⟨rfl, hi, hsb, hsm⟩
  dsimp only at hi hsb hsm
  try simp (disch := first | omega | (simp only [PL]; omega)) only [PS, P1, P2, P3, P4, P5, P6, P7, P8, PA, PB, PC, Nat.reduceAdd, Nat.reduceSub, Nat.reduceMul, Nat.reduceLeDiff, Nat.reduceEqDiff, Nat.succ_ne_self, reduceCtorEq, Int.reduceToNat, Int.cast_ofNat_Int, Int.reduceEq, Int.reduceNe, Int.reduceLT, Int.reduceLE, A2, R, id, Rk]
  refine i_cond (fun c2 => ?_) (fun c2 => ?_)
  · have hi2 : i < row.length := by omega
    have hsp := seen_snoc (row.take i) (row.getD i default) tag p
    have hss := sumS_snoc (row.take i) (row.getD i default) tag p
    rw [← take_succ_d default hi2] at hsp hss
    have hb1 := sumS_bound (l := row.take i) (fun s hs => hrow s (List.mem_of_mem_take hs)) tag p
    have hti : (row.take i).length ≤ 1000 := by rw [List.length_take]; omega
    have hxs := hrow _ (getD_mem default hi2)
    simp only [Si.bad] at hxs
    have hw5 : IntKind.i64.wrap (sm' + (row.getD i default).strength) = sm' + (row.getD i default).strength := w64 (by omega) (by omega)
    try simp (disch := first | omega | (simp only [PL]; omega)) only [PS, P1, P2, P3, P4, P5, P6, P7, P8, PA, PB, PC, Nat.reduceAdd, Nat.reduceSub, Nat.reduceMul, Nat.reduceLeDiff, Nat.reduceEqDiff, Nat.succ_ne_self, reduceCtorEq, Int.reduceToNat, Int.cast_ofNat_Int, Int.reduceEq, Int.reduceNe, Int.reduceLT, Int.reduceLE, A2, R, id, Rk, Si.enc]
    refine i_cond (fun c3 => ?_) (fun c3 => ?_)
    · try simp (disch := first | omega | (simp only [PL]; omega)) only [PS, P1, P2, P3, P4, P5, P6, P7, P8, PA, PB, PC, Nat.reduceAdd, Nat.reduceSub, Nat.reduceMul, Nat.reduceLeDiff, Nat.reduceEqDiff, Nat.succ_ne_self, reduceCtorEq, Int.reduceToNat, Int.cast_ofNat_Int, Int.reduceEq, Int.reduceNe, Int.reduceLT, Int.reduceLE, hw5]
      exact k_loop (i + 1, true, sm' + (row.getD i default).strength) (by dsimp only; omega) (by try simp only [Pe, and_true, true_and, and_self]; simp) ⟨rfl, by dsimp only; omega, ⟨fun _ => hsp.2 (.inr c3), fun _ => rfl⟩, by rw [hss, if_pos c3, hsm]; dsimp only; omega⟩
    · try simp (disch := first | omega | (simp only [PL]; omega)) only [PS, P1, P2, P3, P4, P5, P6, P7, P8, PA, PB, PC, Nat.reduceAdd, Nat.reduceSub, Nat.reduceMul, Nat.reduceLeDiff, Nat.reduceEqDiff, Nat.succ_ne_self, reduceCtorEq, Int.reduceToNat, Int.cast_ofNat_Int, Int.reduceEq, Int.reduceNe, Int.reduceLT, Int.reduceLE]
      exact k_loop (i + 1, sb, sm') (by dsimp only; omega) (by try simp only [Pe, and_true, true_and, and_self]) ⟨rfl, by dsimp only; omega, by rw [hsp]; dsimp only; rw [hsb]; simp only [c3, or_false], by rw [hss, if_neg c3, hsm]; dsimp only; omega⟩
  · have : i = row.length := by omega
    subst this
    rw [List.take_length] at hsb hsm
    try simp (disch := first | omega | (simp only [PL]; omega)) only [PS, P1, P2, P3, P4, P5, P6, P7, P8, PA, PB, PC, Nat.reduceAdd, Nat.reduceSub, Nat.reduceMul, Nat.reduceLeDiff, Nat.reduceEqDiff, Nat.succ_ne_self, reduceCtorEq, Int.reduceToNat, Int.cast_ofNat_Int, Int.reduceEq, Int.reduceNe, Int.reduceLT, Int.reduceLE]
    have hwn : IntKind.i64.wrap (n + 1) = n + 1 := w64 (by omega) (by omega)
    refine i_cond (fun c3 => ?_) (fun c3 => ?_)
    · rw [if_pos (hsb.1 c3)] at hn'
      try simp (disch := first | omega | (simp only [PL]; omega)) only [PS, P1, P2, P3, P4, P5, P6, P7, P8, PA, PB, PC, Nat.reduceAdd, Nat.reduceSub, Nat.reduceMul, Nat.reduceLeDiff, Nat.reduceEqDiff, Nat.succ_ne_self, reduceCtorEq, Int.reduceToNat, Int.cast_ofNat_Int, Int.reduceEq, Int.reduceNe, Int.reduceLT, Int.reduceLE, hwn]
      exact k_loop (k + 1, n + 1, sm') (by dsimp only; omega) (by try simp only [Pe, and_true, true_and, and_self]) ⟨Heap.le.refl _, rfl, by dsimp only; omega, by dsimp only; omega, by rw [hn'], by rw [hs', hsm]⟩
    · rw [if_neg (fun h => c3 (hsb.2 h))] at hn'
      try simp (disch := first | omega | (simp only [PL]; omega)) only [PS, P1, P2, P3, P4, P5, P6, P7, P8, PA, PB, PC, Nat.reduceAdd, Nat.reduceSub, Nat.reduceMul, Nat.reduceLeDiff, Nat.reduceEqDiff, Nat.succ_ne_self, reduceCtorEq, Int.reduceToNat, Int.cast_ofNat_Int, Int.reduceEq, Int.reduceNe, Int.reduceLT, Int.reduceLE]
      exact k_loop (k + 1, n, sm') (by dsimp only; omega) (by try simp only [Pe, and_true, true_and, and_self]) ⟨Heap.le.refl _, rfl, by dsimp only; omega, by dsimp only; omega, by rw [hn']; dsimp only; omega, by rw [hs', hsm]⟩
end Go.Cw
namespace Go.Cw
open Go
def IsB (need : Nat) (cnt : Int → Nat) (st : Int → Int) (lo hi : Int) (b : Int) : Prop :=
  (b = -1 ∧ ∀ p, lo ≤ p → p < hi → cnt p < need) ∨ (lo ≤ b ∧ b < hi ∧ need ≤ cnt b ∧ ∀ p, lo ≤ p → p < hi → need ≤ cnt p → cnt p < cnt b ∨ (cnt p = cnt b ∧ (st p < st b ∨ (st p = st b ∧ b ≤ p))))
theorem IsB.uniq {need : Nat} {cnt : Int → Nat} {st : Int → Int} {lo hi b c : Int} (hb : IsB need cnt st lo hi b) (hc : IsB need cnt st lo hi c) : b = c := by
  rcases hb with ⟨h1, h2⟩ | ⟨h1, h2, h3, h4⟩ <;> rcases hc with ⟨g1, g2⟩ | ⟨g1, g2, g3, g4⟩
  · rw [h1, g1]
  · have := h2 c g1 g2; omega
  · have := g2 b h1 h2; omega
  · have a := h4 c g1 g2 g3
    have b := g4 b h1 h2 h3
    omega
theorem bestTo_isB (need : Nat) (cnt : Int → Nat) (st : Int → Int) : ∀ n : Nat, IsB need cnt st 0 n (bestTo need cnt st n) := by
  intro n
  induction n with
  | zero => exact .inl ⟨rfl, fun p h1 h2 => by simp at h2; omega⟩
  | succ n ih =>
    simp only [bestTo]
    split
    · rename_i h
      rcases ih with ⟨h1, h2⟩ | ⟨h1, h2, h3, h4⟩
      · refine .inl ⟨h1, fun p h3 h4 => ?_⟩
        by_cases e : p = n
        · rw [e]; exact h
        · exact h2 p h3 (by omega)
      · refine .inr ⟨h1, by omega, h3, fun p h5 h6 h7 => ?_⟩
        by_cases e : p = n
        · rw [e] at h7; omega
        · exact h4 p h5 (by omega) h7
    · rename_i h
      split
      · rename_i h5
        refine .inr ⟨by omega, by omega, by omega, fun p h6 h7 h8 => ?_⟩
        by_cases e : p = n
        · rw [e]; exact .inr ⟨rfl, .inr ⟨rfl, Int.le_refl _⟩⟩
        · rcases ih with ⟨h1, h2⟩ | ⟨h1, h2, h3, h4⟩
          · have := h2 p h6 (by omega); omega
          · have := h4 p h6 (by omega) h8
            omega
      · rename_i h5
        rcases ih with ⟨h1, h2⟩ | ⟨h1, h2, h3, h4⟩
        · omega
        · refine .inr ⟨h1, by omega, h3, fun p h6 h7 h8 => ?_⟩
          by_cases e : p = n
          · rw [e]; omega
          · exact h4 p h6 (by omega) h8
def S86 : Spec := fun args h K => ∃ a tag window need E e, args = [.pointer (some a), .string (str tag), .int .i64 (e : Nat)] ∧ RTr h a window need E ∧ 1 ≤ window ∧ window ≤ 8 ∧ 1 ≤ need ∧ (∀ l ∈ E, ∀ s ∈ l, ¬ s.bad) ∧ e < E.length ∧
  K (.int .i64 (atE window need (E.take (e + 1)) tag)) h
theorem F86_ok {N : Num} {Γ : Ctx} [GoodC Γ] (H111 : Sat S111 (Γ 111)) : Sat S86 (SF N Γ F86) := by
  rintro _ h K ⟨a, tag, window, need, E, e, rfl, hR, w1, w2, n1, hg, he, hK⟩
  refine i_fun rfl ?_
  simp only [F86, env0, List.map, List.length, List.replicate, List.cons_append, List.nil_append, Nat.reduceSub, Nat.reduceAdd]
  have A1 : h.cell (a.add 1) = some (.int .i64 need) := by obtain ⟨ev, fv, ha, _⟩ := hR; exact ha.rules.1 1 (by simp)
  have hat : atE window need (E.take (e + 1)) tag = bestTo need (cntE ((E.take (e + 1)).drop (e + 1 - window)) tag) (strE ((E.take (e + 1)).drop (e + 1 - window)) tag) 8 := by
    unfold atE atW
    rw [show (E.take (e + 1)).length = e + 1 by rw [List.length_take]; omega]
  have hcall := fun p (K : Value → Heap → Prop) hK => H111 [.pointer (some a), .string (str tag), .int .i64 p, .int .i64 (e : Nat)] h K ⟨a, tag, window, need, E, e, p, rfl, hR, w1, w2, hg, he, hK⟩
  rw [hat] at hK
  have hbt := bestTo_isB need (cntE ((E.take (e + 1)).drop (e + 1 - window)) tag) (strE ((E.take (e + 1)).drop (e + 1 - window)) tag) 8
  generalize cntE ((E.take (e + 1)).drop (e + 1 - window)) tag = cnt at *
  generalize strE ((E.take (e + 1)).drop (e + 1 - window)) tag = st at *
  try simp (disch := first | omega | (simp only [PL]; omega)) only [PS, P1, P2, P3, P4, P5, P6, P7, P8, PA, PB, PC, Nat.reduceAdd, Nat.reduceSub, Nat.reduceMul, Nat.reduceLeDiff, Nat.reduceEqDiff, Nat.succ_ne_self, reduceCtorEq, Int.reduceToNat, Int.cast_ofNat_Int, Int.reduceEq, Int.reduceNe, Int.reduceLT, Int.reduceLE]
  refine i_loop (fun s : Nat × Int × Int × Int => [some (.pointer (some a)), some (.string (str tag)), some (.int .i64 e), none, some (.int .i64 s.2.1), some (.int .i64 s.2.2.1), some (.int .i64 s.2.2.2), some (.int .i64 ((s.1 : Int) - 1)), none, none, none, none, none, none])
    (fun s h1 => h1 = h ∧ s.1 ≤ 8 ∧ IsB need cnt st s.1 8 s.2.1 ∧ (0 ≤ s.2.1 → s.2.2.1 = cnt s.2.1 ∧ s.2.2.2 = st s.2.1)) (fun s => s.1) (8, -1, 0, 0) (by try simp only [Pe, and_true, true_and, and_self]; rfl) ⟨rfl, Nat.le_refl _, .inl ⟨rfl, fun p h1 h2 => by dsimp only at h1; omega⟩, fun h => by dsimp only at h; omega⟩ ?_
  rintro ⟨q, best, most, strong⟩ h1 ⟨rfl, hq, hB, hM⟩
  dsimp only at hq hB hM
  try simp (disch := first | omega | (simp only [PL]; omega)) only [PS, P1, P2, P3, P4, P5, P6, P7, P8, PA, PB, PC, Nat.reduceAdd, Nat.reduceSub, Nat.reduceMul, Nat.reduceLeDiff, Nat.reduceEqDiff, Nat.succ_ne_self, reduceCtorEq, Int.reduceToNat, Int.cast_ofNat_Int, Int.reduceEq, Int.reduceNe, Int.reduceLT, Int.reduceLE]
  refine i_cond (fun c1 => ?_) (fun c1 => ?_)
  rotate_left
  · have : q = 0 := by omega
    subst this
    try simp (disch := first | omega | (simp only [PL]; omega)) only [PS, P1, P2, P3, P4, P5, P6, P7, P8, PA, PB, PC, Nat.reduceAdd, Nat.reduceSub, Nat.reduceMul, Nat.reduceLeDiff, Nat.reduceEqDiff, Nat.succ_ne_self, reduceCtorEq, Int.reduceToNat, Int.cast_ofNat_Int, Int.reduceEq, Int.reduceNe, Int.reduceLT, Int.reduceLE]
    rw [hB.uniq hbt]
    exact hK
  obtain ⟨q, rfl⟩ : ∃ q', q = q' + 1 := ⟨q - 1, by omega⟩
  have e1 : (((q + 1 : Nat) : Int) - 1) = (q : Int) := by omega
  have hw : IntKind.i64.wrap ((q : Int) - 1) = (q : Int) - 1 := w64 (by omega) (by omega)
  rw [e1]
  try simp (disch := first | omega | (simp only [PL]; omega)) only [PS, P1, P2, P3, P4, P5, P6, P7, P8, PA, PB, PC, Nat.reduceAdd, Nat.reduceSub, Nat.reduceMul, Nat.reduceLeDiff, Nat.reduceEqDiff, Nat.succ_ne_self, reduceCtorEq, Int.reduceToNat, Int.cast_ofNat_Int, Int.reduceEq, Int.reduceNe, Int.reduceLT, Int.reduceLE]
  refine i_call (S := fun args h' K => ∃ p, args = [.pointer (some a), .string (str tag), .int .i64 p, .int .i64 (e : Nat)] ∧ h' = h1 ∧ K (.tuple #[.int .i64 (cnt p), .int .i64 (st p)]) h1) (fun args h' K ⟨p, e1, e2, hK⟩ => by subst e1 e2; exact hcall p K hK) ⟨q, rfl, rfl, ?_⟩
  try simp (disch := first | omega | (simp only [PL]; omega)) only [PS, P1, P2, P3, P4, P5, P6, P7, P8, PA, PB, PC, Nat.reduceAdd, Nat.reduceSub, Nat.reduceMul, Nat.reduceLeDiff, Nat.reduceEqDiff, Nat.succ_ne_self, reduceCtorEq, Int.reduceToNat, Int.cast_ofNat_Int, Int.reduceEq, Int.reduceNe, Int.reduceLT, Int.reduceLE, A1]
  refine i_cond (fun c2 => ?_) (fun c2 => ?_)
  · try simp (disch := first | omega | (simp only [PL]; omega)) only [PS, P1, P2, P3, P4, P5, P6, P7, P8, PA, PB, PC, Nat.reduceAdd, Nat.reduceSub, Nat.reduceMul, Nat.reduceLeDiff, Nat.reduceEqDiff, Nat.succ_ne_self, reduceCtorEq, Int.reduceToNat, Int.cast_ofNat_Int, Int.reduceEq, Int.reduceNe, Int.reduceLT, Int.reduceLE, hw]
    refine k_loop (q, best, most, strong) (by dsimp only; omega) (by try simp only [Pe, and_true, true_and, and_self]) ⟨rfl, by dsimp only; omega, ?_, hM⟩
    dsimp only
    rcases hB with ⟨h1, h2⟩ | ⟨h1, h2, h3, h4⟩
    · refine .inl ⟨h1, fun p h3 h4 => ?_⟩
      by_cases e : p = q
      · rw [e]; omega
      · exact h2 p (by omega) h4
    · refine .inr ⟨by omega, h2, h3, fun p h5 h6 h7 => ?_⟩
      by_cases e : p = q
      · rw [e] at h7; omega
      · exact h4 p (by omega) h6 h7
  · try simp (disch := first | omega | (simp only [PL]; omega)) only [PS, P1, P2, P3, P4, P5, P6, P7, P8, PA, PB, PC, Nat.reduceAdd, Nat.reduceSub, Nat.reduceMul, Nat.reduceLeDiff, Nat.reduceEqDiff, Nat.succ_ne_self, reduceCtorEq, Int.reduceToNat, Int.cast_ofNat_Int, Int.reduceEq, Int.reduceNe, Int.reduceLT, Int.reduceLE]
    refine i_cond (fun c3 => ?_) (fun c3 => ?_)
    · try simp (disch := first | omega | (simp only [PL]; omega)) only [PS, P1, P2, P3, P4, P5, P6, P7, P8, PA, PB, PC, Nat.reduceAdd, Nat.reduceSub, Nat.reduceMul, Nat.reduceLeDiff, Nat.reduceEqDiff, Nat.succ_ne_self, reduceCtorEq, Int.reduceToNat, Int.cast_ofNat_Int, Int.reduceEq, Int.reduceNe, Int.reduceLT, Int.reduceLE, hw]
      refine k_loop (q, q, cnt q, st q) (by dsimp only; omega) (by try simp only [Pe, and_true, true_and, and_self]) ⟨rfl, by dsimp only; omega, .inr ⟨Int.le_refl _, by dsimp only; omega, by dsimp only; omega, fun p h5 h6 h7 => ?_⟩, fun _ => ⟨rfl, rfl⟩⟩
      dsimp only at h5 h6 ⊢
      by_cases e : p = q
      · rw [e]; exact .inr ⟨rfl, .inr ⟨rfl, Int.le_refl _⟩⟩
      · rcases hB with ⟨h1, h2⟩ | ⟨h1, h2, h3, h4⟩
        · have := h2 p (by omega) h6; omega
        · have := h4 p (by omega) h6 h7
          obtain ⟨m1, m2⟩ := hM (by omega)
          omega
    · try simp (disch := first | omega | (simp only [PL]; omega)) only [PS, P1, P2, P3, P4, P5, P6, P7, P8, PA, PB, PC, Nat.reduceAdd, Nat.reduceSub, Nat.reduceMul, Nat.reduceLeDiff, Nat.reduceEqDiff, Nat.succ_ne_self, reduceCtorEq, Int.reduceToNat, Int.cast_ofNat_Int, Int.reduceEq, Int.reduceNe, Int.reduceLT, Int.reduceLE, hw]
      refine k_loop (q, best, most, strong) (by dsimp only; omega) (by try simp only [Pe, and_true, true_and, and_self]) ⟨rfl, by dsimp only; omega, ?_, hM⟩
      dsimp only
      rcases hB with ⟨h1, h2⟩ | ⟨h1, h2, h3, h4⟩
      · omega
      · obtain ⟨m1, m2⟩ := hM (by omega)
        refine .inr ⟨by omega, h2, h3, fun p h5 h6 h7 => ?_⟩
        by_cases e : p = q
        · rw [e]; omega
        · exact h4 p (by omega) h6 h7
end Go.Cw
namespace Go.Cw
open Go
def dig (d : Nat) : UInt8 := UInt8.ofNat (48 + d % 10)
def dec (n : Nat) : List UInt8 := if h : n < 10 then [dig n] else dec (n / 10) ++ [dig n]
termination_by n
decreasing_by omega
theorem dec_lt {n : Nat} (h : n < 10) : dec n = [dig n] := by rw [dec, dif_pos h]
theorem dec_ge {n : Nat} (h : 10 ≤ n) : dec n = dec (n / 10) ++ [dig n] := by rw [dec, dif_neg (by omega)]
theorem dig_val (d : Nat) : (dig d).toNat = 48 + d % 10 := by
  have : 48 + d % 10 < 256 := by omega
  simp [dig, Nat.mod_eq_of_lt this]
theorem dec_digits (n : Nat) : ∀ b ∈ dec n, 48 ≤ b.toNat ∧ b.toNat ≤ 57 := by
  induction n using Nat.strongRecOn with
  | _ n ih =>
    intro b hb
    by_cases h : n < 10
    · rw [dec_lt h, List.mem_singleton] at hb; subst hb; rw [dig_val]; omega
    · rw [dec_ge (by omega), List.mem_append, List.mem_singleton] at hb
      rcases hb with hb | rfl
      · exact ih _ (by omega) b hb
      · rw [dig_val]; omega
theorem dec_ne (n : Nat) : dec n ≠ [] := by
  by_cases h : n < 10
  · rw [dec_lt h]; simp
  · rw [dec_ge (by omega)]; simp
theorem dec_inj : ∀ {a b : Nat}, dec a = dec b → a = b := by
  intro a
  induction a using Nat.strongRecOn with
  | _ a ih =>
    intro b h
    have hd : ∀ x y : Nat, dig x = dig y → x % 10 = y % 10 := by
      intro x y e
      have := congrArg UInt8.toNat e
      rw [dig_val, dig_val] at this; omega
    by_cases h1 : a < 10 <;> by_cases h2 : b < 10
    · rw [dec_lt h1, dec_lt h2] at h
      have := hd _ _ (by simpa using h); omega
    · rw [dec_lt h1, dec_ge (by omega)] at h
      have := congrArg List.length h
      have hne := List.length_pos_iff.2 (dec_ne (b / 10))
      rw [List.length_append] at this
      simp only [List.length_singleton] at this
      omega
    · rw [dec_lt h2, dec_ge (n := a) (by omega)] at h
      have := congrArg List.length h
      have hne := List.length_pos_iff.2 (dec_ne (a / 10))
      rw [List.length_append] at this
      simp only [List.length_singleton] at this
      omega
    · rw [dec_ge (by omega), dec_ge (n := b) (by omega)] at h
      obtain ⟨e1, e2⟩ := List.append_inj' h rfl
      have h3 := ih (a / 10) (by omega) e1
      have h4 := hd _ _ (by simpa using e2)
      omega
theorem dec_len : ∀ (k : Nat) {n : Nat}, n < 10 ^ k → 0 < k → (dec n).length ≤ k := by
  intro k
  induction k with
  | zero => intro n _ h; omega
  | succ k ih =>
    intro n hn _
    by_cases h : n < 10
    · rw [dec_lt h]; simp
    · rw [dec_ge (by omega), List.length_append, List.length_singleton]
      have hk : 0 < k := by
        rcases Nat.eq_zero_or_pos k with rfl | hk
        · simp at hn; omega
        · exact hk
      have := ih (n := n / 10) (by rw [Nat.pow_succ] at hn; omega) hk
      omega
theorem dec_lt_of_len : ∀ (k : Nat) {n : Nat}, (dec n).length ≤ k → n < 10 ^ k := by
  intro k
  induction k with
  | zero => intro n h; exact absurd (List.eq_nil_of_length_eq_zero (Nat.le_zero.1 h)) (dec_ne n)
  | succ k ih =>
    intro n h
    by_cases h1 : n < 10
    · have : 0 < 10 ^ k := Nat.pow_pos (by omega)
      rw [Nat.pow_succ]; omega
    · rw [dec_ge (by omega), List.length_append, List.length_singleton] at h
      have := ih (n := n / 10) (by omega)
      rw [Nat.pow_succ]; omega
theorem dec_le_iff {n k : Nat} (hk : 0 < k) : (dec n).length ≤ k ↔ n < 10 ^ k := ⟨dec_lt_of_len k, fun h => dec_len k h hk⟩
def keyOf (tag : List UInt8) (e : Nat) : List UInt8 := tag ++ [64] ++ dec e
theorem keyOf_inj {t1 t2 : List UInt8} {e1 e2 : Nat} (h : keyOf t1 e1 = keyOf t2 e2) : t1 = t2 ∧ e1 = e2 := by
  have aux : ∀ (t1 t2 d1 d2 : List UInt8), (∀ b ∈ d1, b ≠ 64) → (∀ b ∈ d2, b ≠ 64) → t1 ++ [64] ++ d1 = t2 ++ [64] ++ d2 → t1 = t2 ∧ d1 = d2 := by
    intro t1
    induction t1 with
    | nil =>
      intro t2 d1 d2 h1 h2 e
      cases t2 with
      | nil => simpa using e
      | cons x t2 =>
        simp only [List.nil_append, List.cons_append, List.cons.injEq] at e
        exact absurd rfl (h1 64 (by rw [e.2]; simp))
    | cons x t1 ih =>
      intro t2 d1 d2 h1 h2 e
      cases t2 with
      | nil =>
        simp only [List.nil_append, List.cons_append, List.cons.injEq] at e
        exact absurd rfl (h2 64 (by rw [← e.2]; simp))
      | cons y t2 =>
        simp only [List.cons_append, List.cons.injEq] at e
        obtain ⟨rfl, e⟩ := e
        obtain ⟨rfl, rfl⟩ := ih t2 d1 d2 h1 h2 (by simpa using e)
        exact ⟨rfl, rfl⟩
  have hn : ∀ n, ∀ b ∈ dec n, b ≠ 64 := by
    intro n b hb e
    have := dec_digits n b hb
    rw [e] at this
    simp at this
  obtain ⟨a, b⟩ := aux _ _ _ _ (hn e1) (hn e2) h
  exact ⟨a, dec_inj b⟩
def S85 : Spec := fun args h K => ∃ n : Nat, args = [.int .i64 n] ∧ n ≤ 9223372036854775807 ∧ ∀ h', Heap.le h h' → K (.string (str (dec n))) h'
theorem F85_ok {N : Num} {Γ : Ctx} [GoodC Γ] : Sat S85 (SF N Γ F85) := by
  rintro _ h K ⟨n, rfl, hn, hK⟩
  refine i_fun rfl ?_
  simp only [F85, env0, List.map, List.length, List.replicate, List.cons_append, List.nil_append, Nat.reduceSub, Nat.reduceAdd]
  have hneg : ((n : Int) < 0) = False := by simp
  try simp (disch := first | omega | (simp only [PL]; omega)) only [PS, P1, P2, P3, P4, P5, P6, P7, P8, PA, PB, PC, Nat.reduceAdd, Nat.reduceSub, Nat.reduceMul, Nat.reduceLeDiff, Nat.reduceEqDiff, Nat.succ_ne_self, reduceCtorEq, Int.reduceToNat, Int.cast_ofNat_Int, Int.reduceEq, Int.reduceNe, Int.reduceLT, Int.reduceLE, hneg]
  refine i_loop (fun s : Nat × List UInt8 => [some (.int .i64 s.1), some (.string (str [])), some (.string (str s.2)), some (.string (str [])), none, none, none, none, none])
    (fun s h1 => Heap.le h h1 ∧ s.1 ≤ n ∧ dec n = dec s.1 ++ s.2 ∧ s.1 + s.2.length ≤ n ∧ (s.1 = 0 → s.2 = [])) (fun s => s.1) (n, []) (by dsimp only; try simp only [Pe, and_true, true_and, and_self]) ⟨Heap.le.refl h, Nat.le_refl _, by simp, by simp, by simp⟩ ?_
  rintro ⟨k, s⟩ h1 ⟨hle, hk, hd, hs, h0⟩
  dsimp only at hk hd hs h0
  have hrem : ∀ h, o2V h (.bin .rem) (.v (.int .i64 (k : Int))) (.v (.int .i64 10)) = some (.v (.int .i64 ((k % 10 : Nat) : Int))) := by
    intro h
    simp only [o2V, binV, intV, if_true, Option.map_some]
    rw [if_neg (by decide), show (k : Int).tmod 10 = ((k % 10 : Nat) : Int) from by rw [Int.tmod_eq_emod_of_nonneg (by omega)]; omega]
    rfl
  have hquo : IntKind.i64.wrap ((k : Int).tdiv 10) = ((k / 10 : Nat) : Int) := by
    rw [show (k : Int).tdiv 10 = ((k / 10 : Nat) : Int) from by rw [Int.tdiv_eq_ediv_of_nonneg (by omega)]; omega, w64 (by omega) (by omega)]
  have hneg2 : ((((k % 10 : Nat) : Int)) < 0) = False := by simp; omega
  try simp (disch := first | omega | (simp only [PL]; omega)) only [PS, P1, P2, P3, P4, P5, P6, P7, P8, PA, PB, PC, Nat.reduceAdd, Nat.reduceSub, Nat.reduceMul, Nat.reduceLeDiff, Nat.reduceEqDiff, Nat.succ_ne_self, reduceCtorEq, Int.reduceToNat, Int.cast_ofNat_Int, Int.reduceEq, Int.reduceNe, Int.reduceLT, Int.reduceLE, hrem, hneg2]
  have hw : IntKind.i64.wrap (48 + ((k % 10 : Nat) : Int)) = ((48 + k % 10 : Nat) : Int) := by rw [w64 (by omega) (by omega)]; omega
  have hb : IntKind.u8.wrap ((48 + k % 10 : Nat) : Int) = ((dig k).toNat : Int) := by rw [w8', dig_val]; omega
  try simp (disch := first | omega | (simp only [PL]; omega)) only [PS, P1, P2, P3, P4, P5, P6, P7, P8, PA, PB, PC, Nat.reduceAdd, Nat.reduceSub, Nat.reduceMul, Nat.reduceLeDiff, Nat.reduceEqDiff, Nat.succ_ne_self, reduceCtorEq, Int.reduceToNat, Int.cast_ofNat_Int, Int.reduceEq, Int.reduceNe, Int.reduceLT, Int.reduceLE, hw, hb]
  refine i_bslS encB 1 encB_len [dig k] rfl rfl (by simp [maxLen]) fun v h2 hle2 ho => ?_
  have hv := ho.sl encB_len
  have hb2 := hv.b2s
  have hd2 : 10 ≤ k → dec n = dec (k / 10) ++ ([dig k] ++ s) := fun h => by rw [hd, dec_ge h, List.append_assoc]
  have hd1 : k < 10 → dec n = [dig k] ++ s := fun h => by rw [hd, dec_lt h]
  have hl1 : 1 + s.length ≤ 9223372036854775807 := by
    by_cases e : k = 0
    · rw [h0 e]; simp
    · omega
  try simp (disch := first | omega | (simp only [PL]; omega)) only [PS, P1, P2, P3, P4, P5, P6, P7, P8, PA, PB, PC, Nat.reduceAdd, Nat.reduceSub, Nat.reduceMul, Nat.reduceLeDiff, Nat.reduceEqDiff, Nat.succ_ne_self, reduceCtorEq, Int.reduceToNat, Int.cast_ofNat_Int, Int.reduceEq, Int.reduceNe, Int.reduceLT, Int.reduceLE, hb2]
  try simp (disch := first | omega | (simp only [PL]; omega)) only [PS, P1, P2, P3, P4, P5, P6, P7, P8, PA, PB, PC, Nat.reduceAdd, Nat.reduceSub, Nat.reduceMul, Nat.reduceLeDiff, Nat.reduceEqDiff, Nat.succ_ne_self, reduceCtorEq, Int.reduceToNat, Int.cast_ofNat_Int, Int.reduceEq, Int.reduceNe, Int.reduceLT, Int.reduceLE, hquo]
  refine i_cond (fun c1 => ?_) (fun c1 => ?_)
  · try simp (disch := first | omega | (simp only [PL]; omega)) only [PS, P1, P2, P3, P4, P5, P6, P7, P8, PA, PB, PC, Nat.reduceAdd, Nat.reduceSub, Nat.reduceMul, Nat.reduceLeDiff, Nat.reduceEqDiff, Nat.succ_ne_self, reduceCtorEq, Int.reduceToNat, Int.cast_ofNat_Int, Int.reduceEq, Int.reduceNe, Int.reduceLT, Int.reduceLE]
    rw [hd1 (by omega)] at hK
    exact hK _ (hle.trans hle2)
  · try simp (disch := first | omega | (simp only [PL]; omega)) only [PS, P1, P2, P3, P4, P5, P6, P7, P8, PA, PB, PC, Nat.reduceAdd, Nat.reduceSub, Nat.reduceMul, Nat.reduceLeDiff, Nat.reduceEqDiff, Nat.succ_ne_self, reduceCtorEq, Int.reduceToNat, Int.cast_ofNat_Int, Int.reduceEq, Int.reduceNe, Int.reduceLT, Int.reduceLE]
    refine k_loop (k / 10, [dig k] ++ s) (by dsimp only; omega) (by dsimp only; try simp only [Pe, and_true, true_and, and_self]) ⟨hle.trans hle2, by dsimp only; omega, hd2 (by omega), by dsimp only; simp only [List.length_append, List.length_singleton]; omega, fun h => absurd h (by dsimp only; omega)⟩
end Go.Cw
namespace Go.Cw
open Go
def CacheOk (kv : List (List UInt8 × Int)) (window need : Nat) (E : List (List Si)) : Prop :=
  ∀ k p, look kv k = some p → ∃ tag e, k = keyOf tag e ∧ e < E.length ∧ p = atE window need (E.take (e + 1)) tag
structure RTp (g : Heap) (b window need : Nat) (E : List (List Si)) (ev : Value) (vs : List Value) (mp : Nat) (kv : List (List UInt8 × Int)) (bs : List Nat) (ck : Nat) (g0 : Heap) : Prop where
  obj : objAt g ⟨b, 0, none⟩ [.int .i64 window, .int .i64 need, ev, .map (some mp)]
  evs : SlB encV 1 g ev vs
  vlen : vs.length = E.length
  le0 : Heap.le g0 g
  rows : ∀ i, i < E.length → Sl Si.enc g0 (vs.getD i undef) (E.getD i [])
  map : MapB encKS encKI g mp kv bs ck
  b0 : g0 b = none
  m0 : g0 mp = none
  e0 : ∀ x, blkOf ev = some x → g0 x = none ∧ x ≠ b
  cache : CacheOk kv window need E
  elen : E.length ≤ 1000
  rlen : ∀ l ∈ E, l.length ≤ 1000
def RT (g : Heap) (b window need : Nat) (E : List (List Si)) : Prop := ∃ ev vs mp kv bs ck g0, RTp g b window need E ev vs mp kv bs ck g0
theorem RTp.read {g h : Heap} {b window need : Nat} {E : List (List Si)} {ev : Value} {vs : List Value} {mp : Nat} {kv : List (List UInt8 × Int)} {bs : List Nat} {ck : Nat} {g0 : Heap} (hT : RTp g b window need E ev vs mp kv bs ck g0) (hg : Heap.le g h) : RTr h ⟨b, 0, none⟩ window need E :=
  ⟨ev, _, hT.obj.le hg, ⟨vs, SlB.sl (enc := encV) (fun _ => rfl) (hT.evs.le hg), hT.vlen, fun i hi => (hT.rows i hi).le (hT.le0.trans hg)⟩, hT.elen, hT.rlen⟩
theorem RT.read {g h : Heap} {b window need : Nat} {E : List (List Si)} (hT : RT g b window need E) (hg : Heap.le g h) : RTr h ⟨b, 0, none⟩ window need E := by
  obtain ⟨ev, vs, mp, kv, bs, ck, g0, hT⟩ := hT
  exact hT.read hg
theorem MapB.lkpoi {h : Heap} {m : Nat} {kv : List (List UInt8 × Int)} {bs : List Nat} {ck : Nat} (hm : MapB encKS encKI h m kv bs ck) (k : List UInt8) : o2V h (.lkpo .str (.int .i64 0)) (.v (.map (some m))) (.v (.string (str k))) = some (.v (.tuple #[.int .i64 ((look kv k).getD 0), .bool (look kv k).isSome])) := by
  have := (hm.rules .str).2.1 (.int .i64 0) k
  rw [show (Value.string (str k)) = encKS k from rfl, this]
  cases look kv k <;> rfl
theorem RTp.put {g : Heap} {b window need : Nat} {E : List (List Si)} {ev : Value} {vs : List Value} {mp : Nat} {kv kv' : List (List UInt8 × Int)} {bs bs' : List Nat} {ck ck' : Nat} {g0 : Heap} (hT : RTp g b window need E ev vs mp kv bs ck g0) {o : Obj}
    (hm : MapB encKS encKI (g.set mp o) mp kv' bs' ck') (hc : CacheOk kv' window need E) : RTp (g.set mp o) b window need E ev vs mp kv' bs' ck' g0 := by
  have hmp := hT.map
  have hb : b ≠ mp := by
    intro e
    obtain ⟨_, c, t, h1, _⟩ := hT.obj
    obtain ⟨es, h2, _⟩ := hmp
    dsimp only at h1
    rw [e, h2] at h1; cases h1
  have hx : ∀ x, blkOf ev = some x → x ≠ mp := by
    intro x hx e
    obtain ⟨a, cap, rfl, _, _, h3⟩ := hT.evs
    rcases h3 with ⟨rfl, _⟩ | ⟨b', c, t, rfl, h3, _⟩
    · simp [blkOf] at hx
    · simp only [blkOf, Option.some.injEq] at hx
      obtain ⟨es, h2, _⟩ := hmp
      rw [hx, e, h2] at h3; cases h3
  exact ⟨hT.obj.set_ne hb, hT.evs.same fun x h => Heap.set_ne (hx x h), hT.vlen, fun x ob h => by
    have : x ≠ mp := by intro e; subst e; rw [hT.m0] at h; cases h
    rw [Heap.set_ne this]; exact hT.le0 x ob h, hT.rows, hm, hT.b0, hT.m0, hT.e0, hc, hT.elen, hT.rlen⟩
def MOkE (window need : Nat) (E : List (List Si)) : Prop := 1 ≤ window ∧ window ≤ 8 ∧ 1 ≤ need ∧ ∀ l ∈ E, ∀ s ∈ l, ¬ s.bad
def S70 : Spec := fun args h K => ∃ g b window need E tag e, args = [.pointer (some ⟨b, 0, none⟩), .string (str tag), .int .i64 (e : Nat)] ∧ RT g b window need E ∧ Heap.le g h ∧ MOkE window need E ∧ tag.length ≤ 1000000 ∧ e < E.length ∧
  ∀ g' h', Step g h g' h' → RT g' b window need E → K (.int .i64 (atE window need (E.take (e + 1)) tag)) h'
theorem F70_ok {N : Num} {Γ : Ctx} [GoodC Γ] (H85 : Sat S85 (Γ 85)) (H86 : Sat S86 (Γ 86)) : Sat S70 (SF N Γ F70) := by
  rintro _ h K ⟨g, b, window, need, E, tag, e, rfl, ⟨ev, vs, mp, kv, bs, ck, g0, hT⟩, hg, ⟨w1, w2, n1, hgood⟩, htl, he, hK⟩
  have hel := hT.elen
  refine i_fun rfl ?_
  simp only [F70, env0, List.map, List.length, List.replicate, List.cons_append, List.nil_append, Nat.reduceSub, Nat.reduceAdd]
  try simp (disch := first | omega | (simp only [PL]; omega)) only [PS, P1, P2, P3, P4, P5, P6, P7, P8, PA, PB, PC, Nat.reduceAdd, Nat.reduceSub, Nat.reduceMul, Nat.reduceLeDiff, Nat.reduceEqDiff, Nat.succ_ne_self, reduceCtorEq, Int.reduceToNat, Int.cast_ofNat_Int, Int.reduceEq, Int.reduceNe, Int.reduceLT, Int.reduceLE]
  refine i_call H85 ⟨e, rfl, by omega, fun h1 hle1 => ?_⟩
  have hg1 := hg.trans hle1
  have hdl := dec_len 4 (n := e) (by omega) (by omega)
  have A3 : h1.cell ((⟨b, 0, none⟩ : Addr).add 3) = some (.map (some mp)) := (hT.obj.le hg1).rules.1 3 (by simp)
  have Rk := (hT.map.le hg1).lkpoi (keyOf tag e)
  have hkey : tag ++ [64] ++ dec e = keyOf tag e := rfl
  cases hlk : look kv (keyOf tag e) with
  | some p =>
    rw [hlk] at Rk
    try simp (disch := first | omega | (simp only [PL]; omega)) only [PS, P1, P2, P3, P4, P5, P6, P7, P8, PA, PB, PC, Nat.reduceAdd, Nat.reduceSub, Nat.reduceMul, Nat.reduceLeDiff, Nat.reduceEqDiff, Nat.succ_ne_self, reduceCtorEq, Int.reduceToNat, Int.cast_ofNat_Int, Int.reduceEq, Int.reduceNe, Int.reduceLT, Int.reduceLE, hkey, A3, Rk]
    obtain ⟨t2, e2, h1', h2, h3⟩ := hT.cache _ _ hlk
    obtain ⟨rfl, rfl⟩ := keyOf_inj h1'
    rw [h3]
    exact hK _ _ (Step.more hg hle1) ⟨ev, vs, mp, kv, bs, ck, g0, hT⟩
  | none =>
    rw [hlk] at Rk
    try simp (disch := first | omega | (simp only [PL]; omega)) only [PS, P1, P2, P3, P4, P5, P6, P7, P8, PA, PB, PC, Nat.reduceAdd, Nat.reduceSub, Nat.reduceMul, Nat.reduceLeDiff, Nat.reduceEqDiff, Nat.succ_ne_self, reduceCtorEq, Int.reduceToNat, Int.cast_ofNat_Int, Int.reduceEq, Int.reduceNe, Int.reduceLT, Int.reduceLE, hkey, A3, Rk]
    refine i_call H86 ⟨⟨b, 0, none⟩, tag, window, need, E, e, rfl, hT.read hg1, w1, w2, n1, hgood, he, ?_⟩
    try simp (disch := first | omega | (simp only [PL]; omega)) only [PS, P1, P2, P3, P4, P5, P6, P7, P8, PA, PB, PC, Nat.reduceAdd, Nat.reduceSub, Nat.reduceMul, Nat.reduceLeDiff, Nat.reduceEqDiff, Nat.succ_ne_self, reduceCtorEq, Int.reduceToNat, Int.cast_ofNat_Int, Int.reduceEq, Int.reduceNe, Int.reduceLT, Int.reduceLE, A3]
    refine i_mupd (ek := encKS) (ev := encKI) hT.map hg1 (keyOf tag e) (atE window need (E.take (e + 1)) tag) fun o bs' ck' hM hS _ => ?_
    try simp (disch := first | omega | (simp only [PL]; omega)) only [PS, P1, P2, P3, P4, P5, P6, P7, P8, PA, PB, PC, Nat.reduceAdd, Nat.reduceSub, Nat.reduceMul, Nat.reduceLeDiff, Nat.reduceEqDiff, Nat.succ_ne_self, reduceCtorEq, Int.reduceToNat, Int.cast_ofNat_Int, Int.reduceEq, Int.reduceNe, Int.reduceLT, Int.reduceLE]
    refine hK _ _ ((Step.more hg hle1).trans hS) ⟨ev, vs, mp, _, bs', ck', g0, hT.put hM fun k p hk => ?_⟩
    rw [look_upd] at hk
    split at hk
    · rename_i ek; cases hk; exact ⟨tag, e, ek, he, rfl⟩
    · exact hT.cache k p hk
end Go.Cw
namespace Go.Cw
open Go
def whr (window need : Nat) (E : List (List Si)) (tag : List UInt8) (e : Int) : Int × Nat :=
  if e < 0 ∨ (E.length : Int) ≤ e then (0, 1) else if toldE E tag then (atE window need (E.take (e.toNat + 1)) tag, 0) else (0, 5)
def cms (window need : Nat) (E : List (List Si)) (tag : List UInt8) (p e : Int) : Bool :=
  if (whr window need E tag e).2 ≠ 0 ∨ p < 0 ∨ (whr window need E tag e).1 ≠ p then false else decide (e = 0 ∨ atE window need (E.take ((e - 1).toNat + 1)) tag ≠ p)
def S52 : Spec := fun args h K => ∃ g b window need E tag e, args = [.pointer (some ⟨b, 0, none⟩), .string (str tag), .int .i64 e] ∧ RT g b window need E ∧ Heap.le g h ∧ MOkE window need E ∧ tag.length ≤ 1000000 ∧
  ∀ g' h', Step g h g' h' → RT g' b window need E → K (.tuple #[.int .i64 (whr window need E tag e).1, .int .i64 ((whr window need E tag e).2 : Nat)]) h'
theorem F52_ok {N : Num} {Γ : Ctx} [GoodC Γ] (H55 : Sat S55 (Γ 55)) (H70 : Sat S70 (Γ 70)) : Sat S52 (SF N Γ F52) := by
  rintro _ h K ⟨g, b, window, need, E, tag, e, rfl, hT, hg, hm, htl, hK⟩
  have hR := hT.read hg
  refine i_fun rfl ?_
  simp only [F52, env0, List.map, List.length, List.replicate, List.cons_append, List.nil_append, Nat.reduceSub, Nat.reduceAdd]
  obtain ⟨ev, fv, ho, ⟨vs, hv, hvl, hr⟩, hel, hrl⟩ := id hR
  have A2 : h.cell ((⟨b, 0, none⟩ : Addr).add 2) = some ev := ho.rules.1 2 (by simp)
  have R := hv.rules1 id (fun _ => rfl) undef
  rw [hvl] at R
  unfold whr at hK
  try simp (disch := first | omega | (simp only [PL]; omega)) only [PS, P1, P2, P3, P4, P5, P6, P7, P8, PA, PB, PC, Nat.reduceAdd, Nat.reduceSub, Nat.reduceMul, Nat.reduceLeDiff, Nat.reduceEqDiff, Nat.succ_ne_self, reduceCtorEq, Int.reduceToNat, Int.cast_ofNat_Int, Int.reduceEq, Int.reduceNe, Int.reduceLT, Int.reduceLE, A2, R]
  refine i_cond (fun c1 => ?_) (fun c1 => ?_)
  · rw [if_pos (by omega)] at hK
    try simp (disch := first | omega | (simp only [PL]; omega)) only [PS, P1, P2, P3, P4, P5, P6, P7, P8, PA, PB, PC, Nat.reduceAdd, Nat.reduceSub, Nat.reduceMul, Nat.reduceLeDiff, Nat.reduceEqDiff, Nat.succ_ne_self, reduceCtorEq, Int.reduceToNat, Int.cast_ofNat_Int, Int.reduceEq, Int.reduceNe, Int.reduceLT, Int.reduceLE]
    exact hK _ _ (Step.refl hg) hT
  · rw [if_neg (by omega)] at hK
    obtain ⟨i, rfl⟩ : ∃ i : Nat, e = i := ⟨e.toNat, by omega⟩
    try simp (disch := first | omega | (simp only [PL]; omega)) only [PS, P1, P2, P3, P4, P5, P6, P7, P8, PA, PB, PC, Nat.reduceAdd, Nat.reduceSub, Nat.reduceMul, Nat.reduceLeDiff, Nat.reduceEqDiff, Nat.succ_ne_self, reduceCtorEq, Int.reduceToNat, Int.cast_ofNat_Int, Int.reduceEq, Int.reduceNe, Int.reduceLT, Int.reduceLE, A2, R]
    refine i_call H55 ⟨⟨b, 0, none⟩, tag, window, need, E, E.length, rfl, hR, ?_⟩
    rw [List.take_of_length_le (by omega)]
    by_cases ht : toldE E tag
    · rw [if_pos ht] at hK
      rw [decide_eq_true ht]
      try simp (disch := first | omega | (simp only [PL]; omega)) only [PS, P1, P2, P3, P4, P5, P6, P7, P8, PA, PB, PC, Nat.reduceAdd, Nat.reduceSub, Nat.reduceMul, Nat.reduceLeDiff, Nat.reduceEqDiff, Nat.succ_ne_self, reduceCtorEq, Int.reduceToNat, Int.cast_ofNat_Int, Int.reduceEq, Int.reduceNe, Int.reduceLT, Int.reduceLE]
      refine i_call H70 ⟨g, b, window, need, E, tag, i, rfl, hT, hg, hm, htl, by omega, fun g' h' hS hT' => ?_⟩
      try simp (disch := first | omega | (simp only [PL]; omega)) only [PS, P1, P2, P3, P4, P5, P6, P7, P8, PA, PB, PC, Nat.reduceAdd, Nat.reduceSub, Nat.reduceMul, Nat.reduceLeDiff, Nat.reduceEqDiff, Nat.succ_ne_self, reduceCtorEq, Int.reduceToNat, Int.cast_ofNat_Int, Int.reduceEq, Int.reduceNe, Int.reduceLT, Int.reduceLE]
      exact hK _ _ hS hT'
    · rw [if_neg ht] at hK
      rw [decide_eq_false ht]
      try simp (disch := first | omega | (simp only [PL]; omega)) only [PS, P1, P2, P3, P4, P5, P6, P7, P8, PA, PB, PC, Nat.reduceAdd, Nat.reduceSub, Nat.reduceMul, Nat.reduceLeDiff, Nat.reduceEqDiff, Nat.succ_ne_self, reduceCtorEq, Int.reduceToNat, Int.cast_ofNat_Int, Int.reduceEq, Int.reduceNe, Int.reduceLT, Int.reduceLE]
      exact hK _ _ (Step.refl hg) hT
def S53 : Spec := fun args h K => ∃ g b window need E tag p e, args = [.pointer (some ⟨b, 0, none⟩), .string (str tag), .int .i64 p, .int .i64 e] ∧ RT g b window need E ∧ Heap.le g h ∧ MOkE window need E ∧ tag.length ≤ 1000000 ∧
  ∀ g' h', Step g h g' h' → RT g' b window need E → K (.bool (cms window need E tag p e)) h'
theorem F53_ok {N : Num} {Γ : Ctx} [GoodC Γ] (H52 : Sat S52 (Γ 52)) (H70 : Sat S70 (Γ 70)) : Sat S53 (SF N Γ F53) := by
  rintro _ h K ⟨g, b, window, need, E, tag, p, e, rfl, hT, hg, hm, htl, hK⟩
  refine i_fun rfl ?_
  simp only [F53, env0, List.map, List.length, List.replicate, List.cons_append, List.nil_append, Nat.reduceSub, Nat.reduceAdd]
  have hel : E.length ≤ 1000 := (hT.read hg).choose_spec.choose_spec.2.2.1
  unfold cms at hK
  have hw : (whr window need E tag e).2 = 0 → 0 ≤ e ∧ e < E.length := by
    unfold whr
    split
    · simp
    · split
      · intro _; omega
      · simp
  try simp (disch := first | omega | (simp only [PL]; omega)) only [PS, P1, P2, P3, P4, P5, P6, P7, P8, PA, PB, PC, Nat.reduceAdd, Nat.reduceSub, Nat.reduceMul, Nat.reduceLeDiff, Nat.reduceEqDiff, Nat.succ_ne_self, reduceCtorEq, Int.reduceToNat, Int.cast_ofNat_Int, Int.reduceEq, Int.reduceNe, Int.reduceLT, Int.reduceLE]
  refine i_call H52 ⟨g, b, window, need, E, tag, e, rfl, hT, hg, hm, htl, fun g1 h1 hS1 hT1 => ?_⟩
  generalize hwr : whr window need E tag e = wr at *
  obtain ⟨q, f⟩ := wr
  dsimp only at hK hw ⊢
  try simp (disch := first | omega | (simp only [PL]; omega)) only [PS, P1, P2, P3, P4, P5, P6, P7, P8, PA, PB, PC, Nat.reduceAdd, Nat.reduceSub, Nat.reduceMul, Nat.reduceLeDiff, Nat.reduceEqDiff, Nat.succ_ne_self, reduceCtorEq, Int.reduceToNat, Int.cast_ofNat_Int, Int.reduceEq, Int.reduceNe, Int.reduceLT, Int.reduceLE]
  refine i_cond (fun c1 => ?_) (fun c1 => ?_)
  · rw [if_pos (by omega)] at hK
    try simp (disch := first | omega | (simp only [PL]; omega)) only [PS, P1, P2, P3, P4, P5, P6, P7, P8, PA, PB, PC, Nat.reduceAdd, Nat.reduceSub, Nat.reduceMul, Nat.reduceLeDiff, Nat.reduceEqDiff, Nat.succ_ne_self, reduceCtorEq, Int.reduceToNat, Int.cast_ofNat_Int, Int.reduceEq, Int.reduceNe, Int.reduceLT, Int.reduceLE]
    exact hK _ _ hS1 hT1
  · rw [if_neg (by omega)] at hK
    obtain ⟨hw1, hw2⟩ := hw (by omega)
    obtain ⟨i, rfl⟩ : ∃ i : Nat, e = i := ⟨e.toNat, by omega⟩
    by_cases h0 : i = 0
    · subst h0
      try simp (disch := first | omega | (simp only [PL]; omega)) only [PS, P1, P2, P3, P4, P5, P6, P7, P8, PA, PB, PC, Nat.reduceAdd, Nat.reduceSub, Nat.reduceMul, Nat.reduceLeDiff, Nat.reduceEqDiff, Nat.succ_ne_self, reduceCtorEq, Int.reduceToNat, Int.cast_ofNat_Int, Int.reduceEq, Int.reduceNe, Int.reduceLT, Int.reduceLE]
      exact hK _ _ hS1 hT1
    · obtain ⟨j, rfl⟩ : ∃ j, i = j + 1 := ⟨i - 1, by omega⟩
      have e1 : (((j + 1 : Nat) : Int) = 0) = False := by simp; omega
      try simp (disch := first | omega | (simp only [PL]; omega)) only [PS, P1, P2, P3, P4, P5, P6, P7, P8, PA, PB, PC, Nat.reduceAdd, Nat.reduceSub, Nat.reduceMul, Nat.reduceLeDiff, Nat.reduceEqDiff, Nat.succ_ne_self, reduceCtorEq, Int.reduceToNat, Int.cast_ofNat_Int, Int.reduceEq, Int.reduceNe, Int.reduceLT, Int.reduceLE, e1]
      refine i_call H70 ⟨g1, b, window, need, E, tag, j, rfl, hT1, hS1.le, hm, htl, by omega, fun g2 h2 hS2 hT2 => ?_⟩
      try simp (disch := first | omega | (simp only [PL]; omega)) only [PS, P1, P2, P3, P4, P5, P6, P7, P8, PA, PB, PC, Nat.reduceAdd, Nat.reduceSub, Nat.reduceMul, Nat.reduceLeDiff, Nat.reduceEqDiff, Nat.succ_ne_self, reduceCtorEq, Int.reduceToNat, Int.cast_ofNat_Int, Int.reduceEq, Int.reduceNe, Int.reduceLT, Int.reduceLE]
      have e2 : ((((j + 1 : Nat) : Int) - 1).toNat + 1) = j + 1 := by omega
      rw [e2] at hK
      have := hK _ _ (hS1.trans hS2) hT2
      have e3 : decide (((j + 1 : Nat) : Int) = 0 ∨ atE window need (List.take (j + 1) E) tag ≠ p) = decide (atE window need (List.take (j + 1) E) tag ≠ p) := by rw [Bool.eq_iff_iff]; simp [e1]; omega
      rw [e3] at this
      simpa using this
theorem S30_whr {N : Num} {h : Heap} {K : Value → Heap → Prop} {g : Heap} {b window need : Nat} {E : List (List Si)} {tag : List UInt8} {e : Int} (hT : TrO g b window need E) (hg : Heap.le g h)
    (hK : K (.tuple #[.int .i64 (whr window need E tag e).1, errV N (whr window need E tag e).2]) h) : S30 N [.pointer (some ⟨b, 0, none⟩), .string (str tag), .int .i64 e] h K := by
  unfold whr at hK
  refine ⟨g, b, window, need, E, tag, e, rfl, hT, hg, fun h1 => ?_, fun h1 h2 h3 => ?_, fun h1 h2 h3 => ?_⟩
  · rw [if_pos h1] at hK; exact hK
  · rw [if_neg (by omega), if_neg h3] at hK; exact hK
  · rw [if_neg (by omega), if_pos h3] at hK; exact hK
def S50 : Spec := fun args h K => ∃ g b window need E tag p e, args = [.pointer (some ⟨b, 0, none⟩), .string (str tag), .int .i64 p, .int .i64 e] ∧ TrO g b window need E ∧ Heap.le g h ∧ E.length ≤ 1000000 ∧
  K (.bool (cms window need E tag p e)) h
theorem F50_ok {N : Num} {Γ : Ctx} [GoodC Γ] (H30 : Sat (S30 N) (Γ 30)) : Sat S50 (SF N Γ F50) := by
  rintro _ h K ⟨g, b, window, need, E, tag, p, e, rfl, hT, hg, hel, hK⟩
  refine i_fun rfl ?_
  simp only [F50, env0, List.map, List.length, List.replicate, List.cons_append, List.nil_append, Nat.reduceSub, Nat.reduceAdd]
  unfold cms at hK
  have hw : (whr window need E tag e).2 = 0 → 0 ≤ e ∧ e < E.length ∧ toldE E tag := by
    unfold whr
    split
    · simp
    · split
      · rename_i ht; intro _; exact ⟨by omega, by omega, ht⟩
      · simp
  try simp (disch := first | omega | (simp only [PL]; omega)) only [PS, P1, P2, P3, P4, P5, P6, P7, P8, PA, PB, PC, Nat.reduceAdd, Nat.reduceSub, Nat.reduceMul, Nat.reduceLeDiff, Nat.reduceEqDiff, Nat.succ_ne_self, reduceCtorEq, Int.reduceToNat, Int.cast_ofNat_Int, Int.reduceEq, Int.reduceNe, Int.reduceLT, Int.reduceLE]
  refine i_call H30 (S30_whr hT hg ?_)
  generalize hwr : whr window need E tag e = wr at *
  obtain ⟨q, f⟩ := wr
  dsimp only at hK hw ⊢
  try simp (disch := first | omega | (simp only [PL]; omega)) only [PS, P1, P2, P3, P4, P5, P6, P7, P8, PA, PB, PC, Nat.reduceAdd, Nat.reduceSub, Nat.reduceMul, Nat.reduceLeDiff, Nat.reduceEqDiff, Nat.succ_ne_self, reduceCtorEq, Int.reduceToNat, Int.cast_ofNat_Int, Int.reduceEq, Int.reduceNe, Int.reduceLT, Int.reduceLE, errV_eq N]
  refine i_cond (fun c1 => ?_) (fun c1 => ?_)
  · rw [if_pos (by omega)] at hK
    try simp (disch := first | omega | (simp only [PL]; omega)) only [PS, P1, P2, P3, P4, P5, P6, P7, P8, PA, PB, PC, Nat.reduceAdd, Nat.reduceSub, Nat.reduceMul, Nat.reduceLeDiff, Nat.reduceEqDiff, Nat.succ_ne_self, reduceCtorEq, Int.reduceToNat, Int.cast_ofNat_Int, Int.reduceEq, Int.reduceNe, Int.reduceLT, Int.reduceLE]
    exact hK
  · rw [if_neg (by omega)] at hK
    obtain ⟨hw1, hw2, ht⟩ := hw (by omega)
    obtain ⟨i, rfl⟩ : ∃ i : Nat, e = i := ⟨e.toNat, by omega⟩
    by_cases h0 : i = 0
    · subst h0
      try simp (disch := first | omega | (simp only [PL]; omega)) only [PS, P1, P2, P3, P4, P5, P6, P7, P8, PA, PB, PC, Nat.reduceAdd, Nat.reduceSub, Nat.reduceMul, Nat.reduceLeDiff, Nat.reduceEqDiff, Nat.succ_ne_self, reduceCtorEq, Int.reduceToNat, Int.cast_ofNat_Int, Int.reduceEq, Int.reduceNe, Int.reduceLT, Int.reduceLE]
      simpa using hK
    · obtain ⟨j, rfl⟩ : ∃ j, i = j + 1 := ⟨i - 1, by omega⟩
      have e1 : (((j + 1 : Nat) : Int) = 0) = False := by simp; omega
      try simp (disch := first | omega | (simp only [PL]; omega)) only [PS, P1, P2, P3, P4, P5, P6, P7, P8, PA, PB, PC, Nat.reduceAdd, Nat.reduceSub, Nat.reduceMul, Nat.reduceLeDiff, Nat.reduceEqDiff, Nat.succ_ne_self, reduceCtorEq, Int.reduceToNat, Int.cast_ofNat_Int, Int.reduceEq, Int.reduceNe, Int.reduceLT, Int.reduceLE, e1]
      refine i_call H30 (S30_whr (e := (j : Nat)) hT hg ?_)
      have hwj : whr window need E tag (j : Nat) = (atE window need (E.take (j + 1)) tag, 0) := by
        unfold whr
        rw [if_neg (by omega), if_pos ht]; rfl
      rw [hwj]
      try simp (disch := first | omega | (simp only [PL]; omega)) only [PS, P1, P2, P3, P4, P5, P6, P7, P8, PA, PB, PC, Nat.reduceAdd, Nat.reduceSub, Nat.reduceMul, Nat.reduceLeDiff, Nat.reduceEqDiff, Nat.succ_ne_self, reduceCtorEq, Int.reduceToNat, Int.cast_ofNat_Int, Int.reduceEq, Int.reduceNe, Int.reduceLT, Int.reduceLE]
      have e2 : ((((j + 1 : Nat) : Int) - 1).toNat + 1) = j + 1 := by omega
      rw [e2] at hK
      have e3 : decide (((j + 1 : Nat) : Int) = 0 ∨ atE window need (List.take (j + 1) E) tag ≠ p) = decide (atE window need (List.take (j + 1) E) tag ≠ p) := by rw [Bool.eq_iff_iff]; simp [e1]; omega
      rw [e3] at hK
      simpa using hK
end Go.Cw
namespace Go.Cw
open Go
theorem Step.grow {g h h2 g3 h3 F : Heap} (hl : Heap.le h h2) (a : Step g h2 g3 h3) (hF : Heap.le F h3) (hn : ∀ b, h b ≠ none → F b = none) : Step g h (join g3 F) h3 := by
  refine ⟨join_le a.le hF, fun b o h1 h2 => a.frame b o (hl b o h1) h2, fun b h1 h2 => ?_⟩
  refine join_none (a.fresh b ?_ h2) (hn b h1)
  cases hb : h b with
  | none => exact absurd hb h1
  | some o => rw [hl b o hb]; simp
def S51 : Spec := fun args h K => ∃ window need : Nat, args = [.int .i64 window, .int .i64 need] ∧ ∀ b h', h b = none → Heap.le h h' → RT (fr h h') b window need [] → K (.pointer (some ⟨b, 0, none⟩)) h'
theorem F51_ok {N : Num} {Γ : Ctx} [GoodC Γ] : Sat S51 (SF N Γ F51) := by
  rintro _ h K ⟨window, need, rfl, hK⟩
  refine i_fun rfl ?_
  simp only [F51, env0, List.map, List.length, List.replicate, List.cons_append, List.nil_append, Nat.reduceSub, Nat.reduceAdd]
  try simp (disch := first | omega | (simp only [PL]; omega)) only [PS, P1, P2, P3, P4, P5, P6, P7, P8, PA, PB, PC, Nat.reduceAdd, Nat.reduceSub, Nat.reduceMul, Nat.reduceLeDiff, Nat.reduceEqDiff, Nat.succ_ne_self, reduceCtorEq, Int.reduceToNat, Int.cast_ofNat_Int, Int.reduceEq, Int.reduceNe, Int.reduceLT, Int.reduceLE]
  refine i_mnew (ek := encKS) (ev := encKI) fun m h1 hm0 hle1 hmE => ?_
  try simp (disch := first | omega | (simp only [PL]; omega)) only [PS, P1, P2, P3, P4, P5, P6, P7, P8, PA, PB, PC, Nat.reduceAdd, Nat.reduceSub, Nat.reduceMul, Nat.reduceLeDiff, Nat.reduceEqDiff, Nat.succ_ne_self, reduceCtorEq, Int.reduceToNat, Int.cast_ofNat_Int, Int.reduceEq, Int.reduceNe, Int.reduceLT, Int.reduceLE]
  refine i_newO fun b h2 hle2 hb ho => ?_
  try simp (disch := first | omega | (simp only [PL]; omega)) only [PS, P1, P2, P3, P4, P5, P6, P7, P8, PA, PB, PC, Nat.reduceAdd, Nat.reduceSub, Nat.reduceMul, Nat.reduceLeDiff, Nat.reduceEqDiff, Nat.succ_ne_self, reduceCtorEq, Int.reduceToNat, Int.cast_ofNat_Int, Int.reduceEq, Int.reduceNe, Int.reduceLT, Int.reduceLE]
  have hmn : (fr h h1) m ≠ none := hmE.mem
  refine hK b h2 (le_none hle1 b hb) (hle1.trans hle2) ⟨.slice none 0 0, [], m, [], [], 0, fun _ => none, ⟨ho.le (fr_fr hle1), SlB.nil, rfl, fun y o hy => (by cases hy), fun i hi => (by simp at hi), hmE.le (fr_mono hle2), rfl, rfl, (by simp [blkOf]), fun k p hk => (by simp [look_nil] at hk), (by simp), (by simp)⟩⟩
def S45 : Spec := fun args h K => ∃ g b v window need E l, args = [.pointer (some ⟨b, 0, none⟩), v] ∧ Sl Si.enc h v l ∧ RT g b window need E ∧ Heap.le g h ∧ E.length < 1000 ∧ l.length ≤ 1000 ∧
  ((∃ s ∈ l, s.bad) → K (.int .i64 1) h) ∧ ((∀ s ∈ l, ¬ s.bad) → ∀ g' h', Step g h g' h' → RT g' b window need (E ++ [l]) → K (.int .i64 0) h')
theorem F45_ok {N : Num} {Γ : Ctx} [GoodC Γ] : Sat S45 (SF N Γ F45) := by
  rintro _ h K ⟨g, b, v, window, need, E, l, rfl, hs, ⟨ev, vs, mp, kv, bs, ck, g0, hT⟩, hg, hel, hll, hK1, hK2⟩
  refine i_fun rfl ?_
  simp only [F45, env0, List.map, List.length, List.replicate, List.cons_append, List.nil_append, Nat.reduceSub, Nat.reduceAdd]
  have R := hs.rules 4 Si.enc_len default
  try simp (disch := first | omega | (simp only [PL]; omega)) only [PS, P1, P2, P3, P4, P5, P6, P7, P8, PA, PB, PC, Nat.reduceAdd, Nat.reduceSub, Nat.reduceMul, Nat.reduceLeDiff, Nat.reduceEqDiff, Nat.succ_ne_self, reduceCtorEq, Int.reduceToNat, Int.cast_ofNat_Int, Int.reduceEq, Int.reduceNe, Int.reduceLT, Int.reduceLE, R]
  refine i_meet_blk (fun env h2 => h2 = h ∧ (∀ s ∈ l, ¬ s.bad) ∧ env = [some (.pointer (some ⟨b, 0, none⟩)), some v, some (.int .i64 0), none, none, none, none, none, none, none, none, none, none]) ?_ ?_
  rotate_left
  · refine i_loop (fun i : Nat => [some (.pointer (some ⟨b, 0, none⟩)), some v, some (.int .i64 0), some (.int .i64 i), none, none, none, none, none, none, none, none, none]) (fun i h2 => h2 = h ∧ i ≤ l.length ∧ ∀ s ∈ l.take i, ¬ s.bad) (fun i => l.length - i) 0 (by try simp only [Pe, and_true, true_and, and_self]; rfl) ⟨rfl, by omega, by simp⟩ ?_
    rintro i h2 ⟨rfl, hi, hgood⟩
    try simp (disch := first | omega | (simp only [PL]; omega)) only [PS, P1, P2, P3, P4, P5, P6, P7, P8, PA, PB, PC, Nat.reduceAdd, Nat.reduceSub, Nat.reduceMul, Nat.reduceLeDiff, Nat.reduceEqDiff, Nat.succ_ne_self, reduceCtorEq, Int.reduceToNat, Int.cast_ofNat_Int, Int.reduceEq, Int.reduceNe, Int.reduceLT, Int.reduceLE, R]
    refine i_cond (fun c1 => ?_) (fun c1 => ?_)
    rotate_left
    · have : i = l.length := by omega
      subst this
      rw [List.take_length] at hgood
      try simp (disch := first | omega | (simp only [PL]; omega)) only [PS, P1, P2, P3, P4, P5, P6, P7, P8, PA, PB, PC, Nat.reduceAdd, Nat.reduceSub, Nat.reduceMul, Nat.reduceLeDiff, Nat.reduceEqDiff, Nat.succ_ne_self, reduceCtorEq, Int.reduceToNat, Int.cast_ofNat_Int, Int.reduceEq, Int.reduceNe, Int.reduceLT, Int.reduceLE]
      exact k_meet _ (by try simp only [Pe, and_true, true_and, and_self]) ⟨rfl, hgood, rfl⟩
    have hi2 : i < l.length := by omega
    try simp (disch := first | omega | (simp only [PL]; omega)) only [PS, P1, P2, P3, P4, P5, P6, P7, P8, PA, PB, PC, Nat.reduceAdd, Nat.reduceSub, Nat.reduceMul, Nat.reduceLeDiff, Nat.reduceEqDiff, Nat.succ_ne_self, reduceCtorEq, Int.reduceToNat, Int.cast_ofNat_Int, Int.reduceEq, Int.reduceNe, Int.reduceLT, Int.reduceLE, R, Si.enc]
    refine i_cond (fun c2 => ?_) (fun c2 => ?_)
    · try simp (disch := first | omega | (simp only [PL]; omega)) only [PS, P1, P2, P3, P4, P5, P6, P7, P8, PA, PB, PC, Nat.reduceAdd, Nat.reduceSub, Nat.reduceMul, Nat.reduceLeDiff, Nat.reduceEqDiff, Nat.succ_ne_self, reduceCtorEq, Int.reduceToNat, Int.cast_ofNat_Int, Int.reduceEq, Int.reduceNe, Int.reduceLT, Int.reduceLE]
      exact hK1 ⟨_, getD_mem default hi2, by simp only [Si.bad]; omega⟩
    · try simp (disch := first | omega | (simp only [PL]; omega)) only [PS, P1, P2, P3, P4, P5, P6, P7, P8, PA, PB, PC, Nat.reduceAdd, Nat.reduceSub, Nat.reduceMul, Nat.reduceLeDiff, Nat.reduceEqDiff, Nat.succ_ne_self, reduceCtorEq, Int.reduceToNat, Int.cast_ofNat_Int, Int.reduceEq, Int.reduceNe, Int.reduceLT, Int.reduceLE]
      refine k_loop (i + 1) (by omega) (by try simp only [Pe, and_true, true_and, and_self]) ⟨rfl, by omega, fun s hs => ?_⟩
      rw [take_succ_d default hi2, List.mem_append, List.mem_singleton] at hs
      rcases hs with hs | rfl
      · exact hgood s hs
      · simp only [Si.bad]; omega
  rintro env h2 ⟨rfl, hgood, rfl⟩
  have A2 := fun (h' : Heap) (hl : Heap.le h2 h') => (hT.obj.le (hg.trans hl)).rules.1 2 (by simp)
  have A2' : h2.cell ((⟨b, 0, none⟩ : Addr).add 2) = some ev := A2 h2 (Heap.le.refl h2)
  try simp (disch := first | omega | (simp only [PL]; omega)) only [PS, P1, P2, P3, P4, P5, P6, P7, P8, PA, PB, PC, Nat.reduceAdd, Nat.reduceSub, Nat.reduceMul, Nat.reduceLeDiff, Nat.reduceEqDiff, Nat.succ_ne_self, reduceCtorEq, Int.reduceToNat, Int.cast_ofNat_Int, Int.reduceEq, Int.reduceNe, Int.reduceLT, Int.reduceLE, A2']
  refine i_app Si.enc_len Si.enc_one (OwnS.nil (Heap.le.refl h2)) hs (by simp only [List.length_nil]; omega) fun v1 h3 ho1 => ?_
  rw [List.nil_append] at ho1
  have hle1 := ho1.1
  have O1 := ho1.one
  refine i_le (le_one hle1) ?_
  try simp (disch := first | omega | (simp only [PL]; omega)) only [PS, P1, P2, P3, P4, P5, P6, P7, P8, PA, PB, PC, Nat.reduceAdd, Nat.reduceSub, Nat.reduceMul, Nat.reduceLeDiff, Nat.reduceEqDiff, Nat.succ_ne_self, reduceCtorEq, Int.reduceToNat, Int.cast_ofNat_Int, Int.reduceEq, Int.reduceNe, Int.reduceLT, Int.reduceLE, O1.1, O1.2]
  refine i_bslB encV 1 (fun _ => rfl) [v1] rfl rfl (by simp [maxLen]) fun x1 b1 h4 hle2 hb1 hx1 hS1 => ?_
  have O2 := hS1.one
  try simp (disch := first | omega | (simp only [PL]; omega)) only [PS, P1, P2, P3, P4, P5, P6, P7, P8, PA, PB, PC, Nat.reduceAdd, Nat.reduceSub, Nat.reduceMul, Nat.reduceLeDiff, Nat.reduceEqDiff, Nat.succ_ne_self, reduceCtorEq, Int.reduceToNat, Int.cast_ofNat_Int, Int.reduceEq, Int.reduceNe, Int.reduceLT, Int.reduceLE, O2.1, O2.2]
  refine i_lew (le_one (hle1.trans hle2)) ?_
  try simp (disch := first | omega | (simp only [PL]; omega)) only [PS, P1, P2, P3, P4, P5, P6, P7, P8, PA, PB, PC, Nat.reduceAdd, Nat.reduceSub, Nat.reduceMul, Nat.reduceLeDiff, Nat.reduceEqDiff, Nat.succ_ne_self, reduceCtorEq, Int.reduceToNat, Int.cast_ofNat_Int, Int.reduceEq, Int.reduceNe, Int.reduceLT, Int.reduceLE]
  have hg4 := hg.trans (hle1.trans hle2)
  refine i_appB (enc := encV) (sz := 1) (fun _ => rfl) (by simp [encV, O1.1]) hT.evs hg4 (SlB.sl (enc := encV) (sz := 1) (fun _ => rfl) (hS1.le (fr_le _ _))) (by have := hT.vlen; simp; omega) fun v2 h5 g5 hS5 St5 e1 e2 e3 => ?_
  have O3 := hS5.one
  have hbn : h2 b ≠ none := by
    obtain ⟨_, c, t, h1, _⟩ := hT.obj.le hg
    dsimp only at h1; rw [h1]; simp
  have hevb : blkOf ev ≠ some b := fun e => (hT.e0 b e).2 rfl
  have hev2b : blkOf v2 ≠ some b := by
    intro e
    rcases e2 b e with h1 | h1
    · exact hevb h1
    · exact hbn (le_none (hle1.trans hle2) b h1)
  have hF5 : Heap.le (fr h2 h3) h5 := by
    intro x o hx
    refine e3 x o (hle2 x o (fr_le _ _ x o hx)) fun e => ?_
    have := hT.evs.mem e
    cases hgx : g x with
    | none => exact this hgx
    | some o' => rw [fr_none (hg x o' hgx)] at hx; cases hx
  have hFn : ∀ x, h2 x ≠ none → (fr h2 h3) x = none := by
    intro x hx
    cases hh : h2 x with
    | none => exact absurd hh hx
    | some o => exact fr_none hh
  have St6 : Step g h2 (join g5 (fr h2 h3)) h5 := Step.grow (hle1.trans hle2) St5 hF5 hFn
  have hob5 : objAt (join g5 (fr h2 h3)) ⟨b, 0, none⟩ [.int .i64 window, .int .i64 need, ev, .map (some mp)] := by
    have : g5 b = g b := e1 b hevb hev2b
    obtain ⟨q1, c, t, q2, q3⟩ := hT.obj
    refine ⟨q1, c, t, ?_, q3⟩
    dsimp only at q2 ⊢
    simp [join, this, q2]
  try simp (disch := first | omega | (simp only [PL]; omega)) only [PS, P1, P2, P3, P4, P5, P6, P7, P8, PA, PB, PC, Nat.reduceAdd, Nat.reduceSub, Nat.reduceMul, Nat.reduceLeDiff, Nat.reduceEqDiff, Nat.succ_ne_self, reduceCtorEq, Int.reduceToNat, Int.cast_ofNat_Int, Int.reduceEq, Int.reduceNe, Int.reduceLT, Int.reduceLE, O3.1, O3.2]
  refine i_st (hob5.le St6.le) 2 1 (by rw [O3.2]; rfl) (by rw [O3.2]; simp [O3.1]) (by omega) (by simp) fun o1 hob6 _ => ?_
  try simp (disch := first | omega | (simp only [PL]; omega)) only [PS, P1, P2, P3, P4, P5, P6, P7, P8, PA, PB, PC, Nat.reduceAdd, Nat.reduceSub, Nat.reduceMul, Nat.reduceLeDiff, Nat.reduceEqDiff, Nat.succ_ne_self, reduceCtorEq, Int.reduceToNat, Int.cast_ofNat_Int, Int.reduceEq, Int.reduceNe, Int.reduceLT, Int.reduceLE]
  have hb5 : (join g5 (fr h2 h3)) b ≠ none := hob5.mem
  have St7 := St6.trans (Step.set St6.le hb5 o1)
  refine i_mnew (ek := encKS) (ev := encKI) fun m h6 hm0 hle6 hmE => ?_
  have St8 := St7.trans (Step.alloc St7.le hle6)
  have hob7 : objAt ((join g5 (fr h2 h3)).set b o1) ⟨b, 0, none⟩ [.int .i64 window, .int .i64 need, v2, .map (some mp)] := by
    have := hob6 (join g5 (fr h2 h3)) (by
      cases hh : (join g5 (fr h2 h3)) b with
      | none => exact absurd hh hb5
      | some o => exact (St6.le b o hh).symm)
    simpa [O3.2] using this
  have hob8 := hob7.le (join_l ((join g5 (fr h2 h3)).set b o1) (fr (h5.set b o1) h6))
  try simp (disch := first | omega | (simp only [PL]; omega)) only [PS, P1, P2, P3, P4, P5, P6, P7, P8, PA, PB, PC, Nat.reduceAdd, Nat.reduceSub, Nat.reduceMul, Nat.reduceLeDiff, Nat.reduceEqDiff, Nat.succ_ne_self, reduceCtorEq, Int.reduceToNat, Int.cast_ofNat_Int, Int.reduceEq, Int.reduceNe, Int.reduceLT, Int.reduceLE]
  refine i_st (hob8.le St8.le) 3 1 rfl rfl (by omega) (by simp) fun o2 hob9 _ => ?_
  try simp (disch := first | omega | (simp only [PL]; omega)) only [PS, P1, P2, P3, P4, P5, P6, P7, P8, PA, PB, PC, Nat.reduceAdd, Nat.reduceSub, Nat.reduceMul, Nat.reduceLeDiff, Nat.reduceEqDiff, Nat.succ_ne_self, reduceCtorEq, Int.reduceToNat, Int.cast_ofNat_Int, Int.reduceEq, Int.reduceNe, Int.reduceLT, Int.reduceLE]
  have St9 := St8.trans (Step.set St8.le hob8.mem o2)
  refine hK2 hgood _ _ St9 ⟨v2, vs ++ [v1], m, [], [], 0, join g0 (fr h2 h3), ?_⟩
  have hg0b : (join g0 (fr h2 h3)) b = none := join_none hT.b0 (hFn b hbn)
  have hbl : b ≠ m := by
    rintro rfl
    rw [Heap.set_eq] at hm0; cases hm0
  have hle5 : Heap.le (join g0 (fr h2 h3)) (join g5 (fr h2 h3)) := by
    intro x o hx
    simp only [join] at hx ⊢
    cases h0x : g0 x with
    | some o' =>
      rw [h0x] at hx
      cases hx
      have hnx : blkOf ev ≠ some x := fun e => by have := (hT.e0 x e).1; rw [h0x] at this; cases this
      have hnx2 : blkOf v2 ≠ some x := by
        intro e
        rcases e2 x e with h1 | h1
        · exact hnx h1
        · have := (hT.le0.trans hg4) x _ h0x
          rw [h1] at this; cases this
      rw [e1 x hnx hnx2, hT.le0 x _ h0x]; rfl
    | none =>
      rw [h0x] at hx
      have hx' : fr h2 h3 x = some o := by simpa using hx
      cases h5x : g5 x with
      | none => simpa using hx'
      | some o' =>
        have a1 := St5.le x o' h5x
        have a2 := hF5 x o hx'
        rw [a1] at a2; simpa using a2
  have hle9 : ∀ G : Heap, Heap.le (join g0 (fr h2 h3)) G → ∀ o, Heap.le (join g0 (fr h2 h3)) (G.set b o) := by
    intro G hG o x ox hx
    have : x ≠ b := by intro e; subst e; rw [hg0b] at hx; cases hx
    rw [Heap.set_ne this]; exact hG x ox hx
  refine ⟨?_, ?_, by simp [hT.vlen], ?_, ?_, ?_, hg0b, ?_, ?_, fun k p hk => by simp [look_nil] at hk, by simp; omega, ?_⟩
  · have := hob9 (join ((join g5 (fr h2 h3)).set b o1) (fr (h5.set b o1) h6)) (by
      cases hh : (join ((join g5 (fr h2 h3)).set b o1) (fr (h5.set b o1) h6)) b with
      | none => exact absurd hh hob8.mem
      | some o => exact (St8.le b o hh).symm)
    exact this
  · refine SlB.same (g := g5) hS5 fun x hx => ?_
    have hxb : x ≠ b := by intro e; subst e; exact hev2b hx
    have h5x := hS5.mem hx
    cases hh : g5 x with
    | none => exact absurd hh h5x
    | some o =>
      rw [Heap.set_ne hxb]
      exact join_l _ _ x o (by rw [Heap.set_ne hxb]; exact join_l _ _ x o hh)
  · exact hle9 _ ((hle9 _ hle5 o1).trans (join_l _ _)) o2
  · intro i hi
    by_cases e : i < E.length
    · have h1 : (vs ++ [v1]).getD i undef = vs.getD i undef := by simp [List.getD_eq_getElem?_getD, List.getElem?_append_left (show i < vs.length by rw [hT.vlen]; exact e)]
      have h2 : (E ++ [l]).getD i [] = E.getD i [] := by simp [List.getD_eq_getElem?_getD, List.getElem?_append_left e]
      rw [h1, h2]; exact (hT.rows i e).le (join_l _ _)
    · have : i = E.length := by simp at hi; omega
      subst this
      have h1 : (vs ++ [v1]).getD E.length undef = v1 := by simp [List.getD_eq_getElem?_getD, ← hT.vlen]
      have h2 : (E ++ [l]).getD E.length [] = l := by simp [List.getD_eq_getElem?_getD]
      rw [h1, h2]
      exact (OwnS.slf2 Si.enc_len ho1).le (join_r (hT.le0.trans (hg.trans hle1)) (fr_le _ _))
  · have h1 := hmE.le (join_r (g := (join g5 (fr h2 h3)).set b o1) ((St7.le).trans hle6) (fr_le _ _))
    exact h1.set_ne (Ne.symm hbl)
  · have h3 := le_none ((hle9 _ hle5 o1).trans St7.le) m hm0
    exact h3
  · intro x hx
    have hxb : x ≠ b := by intro e; subst e; exact hev2b hx
    refine ⟨?_, hxb⟩
    rcases e2 x hx with h1 | h1
    · refine join_none (hT.e0 x h1).1 (hFn x fun h => ?_)
      exact hT.evs.mem h1 (le_none hg x h)
    · exact join_none (le_none (hT.le0.trans hg4) x h1) (le_none ((fr_le _ _).trans hle2) x h1)
  · intro l' hl'
    rw [List.mem_append, List.mem_singleton] at hl'
    rcases hl' with hl' | rfl
    · exact hT.rlen l' hl'
    · exact hll
end Go.Cw
namespace Go.Cw
open Go
theorem OwnS.put {α : Type} {enc : α → List Value} {sz : Nat} (he : ∀ x, (enc x).length = sz) {h0 h : Heap} {v : Value} {L M : List α} (hone : ∀ x ∈ M, (enc x).all Cw.one = true) (ho : OwnS enc sz h0 h v L) {j : Nat} (hj : j + M.length ≤ L.length) (hL : L ≠ []) :
    ∃ h', putRow h (elt v (j * sz)) (M.flatMap enc) = some h' ∧ OwnS enc sz h0 h' v (L.take j ++ M ++ L.drop (j + M.length)) := by
  obtain ⟨h1, a, cap, rfl, h2, h3, h4⟩ := ho
  rcases h4 with ⟨_, e, _⟩ | ⟨b, c, t, rfl, hb0, hb, hcs, hc⟩
  · exact absurd e hL
  have fl := flat_len he L
  have flM := flat_len he M
  have hle : j * sz + M.length * sz ≤ L.length * sz := by rw [← Nat.add_mul]; exact Nat.mul_le_mul_right sz hj
  have hcap : L.length * sz ≤ cap * sz := Nat.mul_le_mul_right sz h2
  have hlen : (L.take j ++ M ++ L.drop (j + M.length)).length = L.length := by simp only [List.length_append, List.length_take, List.length_drop]; omega
  have hall : (M.flatMap enc).all Cw.one = true := by
    rw [List.all_flatMap, List.all_eq_true]; intro y hy; exact hone y hy
  refine ⟨h.set b (.cells (putL c (j * sz) (M.flatMap enc)) t (0, 0)), ?_, ?_⟩
  · simp only [elt]
    rw [addr_add' _ rfl]
    cases hf : M.flatMap enc with
    | nil =>
      simp only [putRow, putL, Option.some.injEq]
      funext y
      simp only [Heap.set]
      split
      · rename_i e; subst e; exact hb
      · rfl
    | cons y ys =>
      have q1 : 0 + j * sz + (y :: ys).length ≤ c.size := by rw [← hf, flM, hcs]; omega
      have q2 : (y :: ys).all Cw.one = true := by rw [← hf]; exact hall
      simp only [putRow, Option.isSome_none, Bool.false_eq_true, if_false, hb]
      rw [if_pos ⟨q1, q2⟩]
      simp
  · refine ⟨h1.over hb0 _, some ⟨b, 0, none⟩, cap, by rw [hlen], by rw [hlen]; exact h2, h3, .inr ⟨b, _, t, rfl, hb0, Heap.set_eq, ?_, ?_⟩⟩
    · rw [(putL_get c (M.flatMap enc) (j * sz) 0 (by rw [flM, hcs]; omega)).1, hcs]
    · intro i hi
      rw [(putL_get c (M.flatMap enc) (j * sz) i (by rw [flM, hcs]; omega)).2, flM]
      have f1 : ((L.take j).flatMap enc).length = j * sz := by rw [flat_len he, List.length_take]; congr 1; omega
      have hsplit : L.flatMap enc = (L.take j).flatMap enc ++ (((L.drop j).take M.length).flatMap enc ++ (L.drop (j + M.length)).flatMap enc) := by
        rw [← List.flatMap_append, ← List.flatMap_append, ← List.drop_drop, List.take_append_drop, List.take_append_drop]
      have f2 : (((L.drop j).take M.length).flatMap enc).length = M.length * sz := by
        rw [flat_len he, List.length_take, List.length_drop]; congr 1; omega
      rw [List.flatMap_append, List.flatMap_append, List.append_assoc]
      rw [flat_len he, hlen] at hi
      have hci := hc i (by rw [fl]; exact hi)
      by_cases e1 : i < j * sz
      · rw [if_neg (by omega), hci, hsplit, List.getElem?_append_left (by rw [f1]; exact e1), List.getElem?_append_left (by rw [f1]; exact e1)]
      · rw [List.getElem?_append_right (by rw [f1]; omega), f1]
        by_cases e2 : i < j * sz + M.length * sz
        · rw [if_pos ⟨by omega, e2⟩, List.getElem?_append_left (by rw [flM]; omega)]
        · rw [if_neg (by omega), hci, hsplit, List.getElem?_append_right (by rw [f1]; omega), f1, List.getElem?_append_right (by rw [f2]; omega), List.getElem?_append_right (by rw [flM]; omega), f2, flM]
theorem i_stS {N : Num} {Γ : Ctx} {α : Type} {enc : α → List Value} {sz : Nat} (he : ∀ x, (enc x).length = sz) {h0 h : Heap} {v x : Value} {L : List α} (y : α) (hone : (enc y).all Cw.one = true) (ho : OwnS enc sz h0 h v L) {j : Nat} (hj : j < L.length) (hx : x.cells.toList = enc y) {K : Value → Heap → Prop}
    (hK : ∀ h', OwnS enc sz h0 h' v (L.set j y) → K undef h') : efW N Γ (.st sz) [.pointer (some (elt v (j * sz))), x] h K := by
  obtain ⟨h', h1, h2⟩ := ho.put he (M := [y]) (by simpa using hone) (j := j) (by simp; omega) (by intro e; subst e; simp at hj)
  refine ⟨by rw [← Array.length_toList, hx, he], h', by rw [hx]; simpa using h1, hK h' ?_⟩
  have : L.set j y = L.take j ++ [y] ++ L.drop (j + 1) := by
    rw [List.set_eq_take_append_cons_drop, if_pos hj]; simp
  rw [this]; exact h2
theorem i_cpyS {N : Num} {Γ : Ctx} {α : Type} {enc : α → List Value} (he : ∀ x, (enc x).length = 1) {h0 h : Heap} {v : Value} {l : List α} {z : α} (hone : ∀ x ∈ l, (enc x).all Cw.one = true) (ho : OwnS enc 1 h0 h v (l ++ [z])) {k : Nat} (hk : k ≤ l.length) :
    ∃ d s, (∀ k1 k2, o3V (.lsl 1) (.v v) (.v (.int k1 ((k + 1 : Nat) : Int))) (.v (.int k2 ((l.length + 1 : Nat) : Int))) = some (.v d)) ∧ (∀ k1 k2, o3V (.lsl 1) (.v v) (.v (.int k1 (k : Int))) (.v (.int k2 ((l.length + 1 : Nat) : Int))) = some (.v s)) ∧
      ∀ K : Value → Heap → Prop, (∀ u h', OwnS enc 1 h0 h' v ((l ++ [z]).take (k + 1) ++ l.drop k) → K u h') → efW N Γ (.cpy 1) [d, s] h K := by
  have hput := ho.put he (M := l.drop k) (fun x hx => hone x (List.mem_of_mem_drop hx)) (j := k + 1) (by simp; omega) (by simp)
  obtain ⟨h', p1, p2⟩ := hput
  have hsl := ho.sl he
  have hfull := p2
  obtain ⟨h1, a, cap, rfl, h2, h3, h4⟩ := ho
  rcases h4 with ⟨_, e, _⟩ | ⟨b, c, t, rfl, hb0, hb, hcs, hc⟩
  · simp at e
  simp only [List.length_append, List.length_singleton] at h2
  refine ⟨.slice (if cap = k + 1 then some ⟨b, 0, none⟩ else some ((⟨b, 0, none⟩ : Addr).add ((k + 1) * 1))) (l.length + 1 - (k + 1)) (cap - (k + 1)), .slice (some ((⟨b, 0, none⟩ : Addr).add (k * 1))) (l.length + 1 - k) (cap - k), ?_, ?_, ?_⟩
  · intro k1 k2
    simp only [o3V]
    rw [if_pos ⟨by omega, by omega, by omega⟩]
    simp
  · intro k1 k2
    simp only [o3V]
    rw [if_pos ⟨by omega, by omega, by omega⟩]
    rw [if_neg (by omega)]
    simp
  · intro K hK
    have hmin : min (l.length + 1 - k) (l.length + 1 - (k + 1)) * 1 = l.length - k := by omega
    have hflen : ((l ++ [z]).flatMap enc).length = l.length + 1 := by rw [flat_len he]; simp
    have hdl : ((l.drop k).flatMap enc).length = l.length - k := by rw [flat_len he]; simp
    have hrow : h.row ((⟨b, 0, none⟩ : Addr).add (k * 1)) (l.length - k) = some ((l.drop k).flatMap enc).toArray := by
      have hr : rowAt h ⟨b, 0, none⟩ ((l ++ [z]).flatMap enc) := by
        refine ⟨rfl, c, t, _, hb, ?_, fun i hi => by simpa using hc i hi⟩
        rw [hflen, hcs]; dsimp only; omega
      rw [hr.row (by rw [hflen]; omega)]
      have e1 : l.flatMap enc = (l.take k).flatMap enc ++ (l.drop k).flatMap enc := by rw [← List.flatMap_append, List.take_append_drop]
      have e2 : ((l.take k).flatMap enc).length = k * 1 := by rw [flat_len he, List.length_take]; congr 1; omega
      rw [List.flatMap_append, e1, List.append_assoc, ← e2, List.drop_left', ← hdl, List.take_left']
      · rfl
      · rfl
    have hlist : (l ++ [z]).take (k + 1) ++ l.drop k ++ (l ++ [z]).drop (k + 1 + (l.drop k).length) = (l ++ [z]).take (k + 1) ++ l.drop k := by
      have : (l ++ [z]).drop (k + 1 + (l.drop k).length) = [] := by apply List.drop_eq_nil_of_le; simp; omega
      rw [this, List.append_nil]
    rw [hlist] at p2
    by_cases hc1 : cap = k + 1
    · have hkl : k = l.length := by omega
      subst hkl
      simp only [List.drop_length, List.flatMap_nil, putRow, Option.some.injEq] at p1
      subst p1
      simp only [if_pos hc1, efW]
      refine ⟨#[], by simp [Heap.row], h, by simp [putRow], by omega, hK _ _ p2⟩
    · simp only [if_neg hc1, efW]
      rw [hmin]
      refine ⟨_, hrow, h', ?_, by omega, hK _ _ p2⟩
      simpa [elt] using p1
end Go.Cw
namespace Go.Cw
open Go
def encT (s : List UInt8) : List Value := [.string (str s)]
def insT : List (List UInt8) → List UInt8 → List (List UInt8)
  | [], s => [s]
  | x :: l, s => if Op.bytesLess x s then x :: insT l s else if x = s then x :: l else s :: x :: l
theorem insT_pre (s : List UInt8) (rest : List (List UInt8)) : ∀ pre : List (List UInt8), (∀ x ∈ pre, Op.bytesLess x s = true) → insT (pre ++ rest) s = pre ++ insT rest s := by
  intro pre
  induction pre with
  | nil => intro _; rfl
  | cons x pre ih =>
    intro h
    simp only [List.cons_append, insT]
    rw [if_pos (h x (by simp)), ih fun y hy => h y (by simp [hy])]
theorem insT_len (s : List UInt8) : ∀ l : List (List UInt8), (insT l s).length ≤ l.length + 1 := by
  intro l
  induction l with
  | nil => simp [insT]
  | cons x l ih =>
    simp only [insT]
    split
    · simp; omega
    · split <;> simp
theorem mem_insT (s t : List UInt8) : ∀ l : List (List UInt8), t ∈ insT l s ↔ t = s ∨ t ∈ l := by
  intro l
  induction l with
  | nil => simp [insT]
  | cons x l ih =>
    simp only [insT]
    split
    · simp only [List.mem_cons, ih]
      constructor
      · rintro (h | h | h) <;> simp [h]
      · rintro (h | h | h) <;> simp [h]
    · split
      · rename_i e; subst e; simp
      · simp
def tagsOfL (l : List (List UInt8)) : List (List UInt8) := l.foldl insT []
theorem tagsOfL_snoc (l : List (List UInt8)) (s : List UInt8) : tagsOfL (l ++ [s]) = insT (tagsOfL l) s := by simp [tagsOfL]
theorem tagsOfL_len (l : List (List UInt8)) : (tagsOfL l).length ≤ l.length := by
  induction l using snoc_ind with
  | h0 => simp [tagsOfL]
  | hs l s ih => rw [tagsOfL_snoc]; have := insT_len s (tagsOfL l); simp; omega
theorem mem_tagsOfL (l : List (List UInt8)) (t : List UInt8) : t ∈ tagsOfL l ↔ t ∈ l := by
  induction l using snoc_ind with
  | h0 => simp [tagsOfL]
  | hs l s ih => rw [tagsOfL_snoc, mem_insT, ih, List.mem_append, List.mem_singleton]; exact or_comm
def flatT (E : List (List Si)) : List (List UInt8) := (E.flatMap id).map (·.tag)
def tagsE (E : List (List Si)) : List (List UInt8) := tagsOfL (flatT E)
theorem flatT_snoc (E : List (List Si)) (l : List Si) : flatT (E ++ [l]) = flatT E ++ l.map (·.tag) := by simp [flatT]
theorem flatT_len (E : List (List Si)) (h : ∀ l ∈ E, l.length ≤ 1000) : (flatT E).length ≤ 1000 * E.length := by
  induction E using snoc_ind with
  | h0 => simp [flatT]
  | hs E l ih =>
    have h1 := ih fun x hx => h x (by simp [hx])
    have h2 := h l (by simp)
    rw [flatT_snoc]
    simp only [List.length_append, List.length_map, List.length_singleton]
    omega
theorem mem_flatT (E : List (List Si)) (t : List UInt8) : t ∈ flatT E ↔ toldE E t := by
  simp only [flatT, List.mem_map, List.mem_flatMap, id, toldE, toldIn]
  constructor
  · rintro ⟨s, ⟨l, hl, hs⟩, rfl⟩; exact ⟨l, hl, s, hs, rfl⟩
  · rintro ⟨l, hl, s, hs, rfl⟩; exact ⟨s, ⟨l, hl, hs⟩, rfl⟩
theorem mem_tagsE (E : List (List Si)) (t : List UInt8) : t ∈ tagsE E ↔ toldE E t := by rw [tagsE, mem_tagsOfL, mem_flatT]
def S14 : Spec := fun args h K => ∃ a window need E u, args = [.pointer (some a), .int .i64 u] ∧ RTr h a window need E ∧ ∀ v h', OwnS encT 1 h h' v (tagsE (E.take (u + 1).toNat)) → K v h'
theorem F14_ok {N : Num} {Γ : Ctx} [GoodC Γ] : Sat S14 (SF N Γ F14) := by
  rintro _ h K ⟨a, window, need, E, u, rfl, ⟨ev, fv, ha, ⟨vs, hv, hvl, hr⟩, hE, hEl⟩, hK⟩
  refine i_fun rfl ?_
  simp only [F14, env0, List.map, List.length, List.replicate, List.cons_append, List.nil_append, Nat.reduceSub, Nat.reduceAdd]
  try simp (disch := first | omega | (simp only [PL]; omega)) only [PS, P1, P2, P3, P4, P5, P6, P7, P8, PA, PB, PC, Nat.reduceAdd, Nat.reduceSub, Nat.reduceMul, Nat.reduceLeDiff, Nat.reduceEqDiff, Nat.succ_ne_self, reduceCtorEq, Int.reduceToNat, Int.cast_ofNat_Int, Int.reduceEq, Int.reduceNe, Int.reduceLT, Int.reduceLE]
  refine i_loop (fun s : Nat × Value => [some (.pointer (some a)), some (.int .i64 u), none, some s.2, some (.int .i64 s.1), none, none, none, none, none, none, none, none, none, none])
    (fun s h1 => s.1 ≤ E.length ∧ (s.1 : Int) ≤ max 0 (u + 1) ∧ OwnS encT 1 h h1 s.2 (tagsE (E.take s.1))) (fun s => E.length - s.1) (0, .slice none 0 0) (by try simp only [Pe, and_true, true_and, and_self]; rfl) ⟨by dsimp only; omega, by dsimp only; omega, by simp [tagsE, flatT, tagsOfL]; exact OwnS.nil (Heap.le.refl h)⟩ ?_
  rintro ⟨e, v⟩ h1 ⟨he, heu, ho⟩
  dsimp only at he heu ho
  have A2 := fun h' (hl : Heap.le h h') => ((ha.le hl).rules.1 2 (by simp) : h'.cell (a.add 2) = some ev)
  have RR := fun h' (hl : Heap.le h h') => (hv.le hl).rules1 id (fun _ => rfl) undef
  rw [hvl] at RR
  have A21 := A2 h1 ho.1
  have R1 := RR h1 ho.1
  have O1 := ho.one
  try simp (disch := first | omega | (simp only [PL]; omega)) only [PS, P1, P2, P3, P4, P5, P6, P7, P8, PA, PB, PC, Nat.reduceAdd, Nat.reduceSub, Nat.reduceMul, Nat.reduceLeDiff, Nat.reduceEqDiff, Nat.succ_ne_self, reduceCtorEq, Int.reduceToNat, Int.cast_ofNat_Int, Int.reduceEq, Int.reduceNe, Int.reduceLT, Int.reduceLE, A21, R1]
  refine i_cond (fun c1 => ?_) (fun c1 => ?_)
  rotate_left
  · have : E.take (u + 1).toNat = E.take e := by
      by_cases c : e < E.length
      · have : (u + 1).toNat = e := by omega
        rw [this]
      · rw [List.take_of_length_le (by omega), List.take_of_length_le (by omega)]
    rw [this] at hK
    try simp (disch := first | omega | (simp only [PL]; omega)) only [PS, P1, P2, P3, P4, P5, P6, P7, P8, PA, PB, PC, Nat.reduceAdd, Nat.reduceSub, Nat.reduceMul, Nat.reduceLeDiff, Nat.reduceEqDiff, Nat.succ_ne_self, reduceCtorEq, Int.reduceToNat, Int.cast_ofNat_Int, Int.reduceEq, Int.reduceNe, Int.reduceLT, Int.reduceLE]
    exact hK _ _ ho
  have he2 : e < E.length := by omega
  have hle := hEl _ (getD_mem [] he2)
  have hfl := flatT_len (E.take e) fun l hl => hEl l (List.mem_of_mem_take hl)
  have htl : (E.take e).length ≤ 1000 := by rw [List.length_take]; omega
  have hsnoc : tagsE (E.take (e + 1)) = tagsOfL (flatT (E.take e) ++ (E.getD e []).map (·.tag)) := by rw [tagsE, take_succ_d [] he2, flatT_snoc]
  have hrow := hr e he2
  generalize hrw : E.getD e [] = row at *
  generalize hft : flatT (E.take e) = fT at *
  have htE : tagsE (E.take e) = tagsOfL fT := by rw [tagsE, hft]
  rw [htE] at ho
  try simp (disch := first | omega | (simp only [PL]; omega)) only [PS, P1, P2, P3, P4, P5, P6, P7, P8, PA, PB, PC, Nat.reduceAdd, Nat.reduceSub, Nat.reduceMul, Nat.reduceLeDiff, Nat.reduceEqDiff, Nat.succ_ne_self, reduceCtorEq, Int.reduceToNat, Int.cast_ofNat_Int, Int.reduceEq, Int.reduceNe, Int.reduceLT, Int.reduceLE]
  refine i_loop (fun s : Nat × Value => [some (.pointer (some a)), some (.int .i64 u), none, some s.2, some (.int .i64 e), some (.int .i64 s.1), none, none, none, none, none, none, none, none, none])
    (fun s h2 => s.1 ≤ row.length ∧ OwnS encT 1 h h2 s.2 (tagsOfL (fT ++ (row.take s.1).map (·.tag)))) (fun s => row.length - s.1) (0, v) (by try simp only [Pe, and_true, true_and, and_self]; rfl) ⟨by dsimp only; omega, by simpa using ho⟩ ?_
  rintro ⟨i, v2⟩ h2 ⟨hi, ho2⟩
  dsimp only at hi ho2
  have A22 := A2 h2 ho2.1
  have R2 := RR h2 ho2.1
  have Re2 := (hrow.le ho2.1).rules 4 Si.enc_len default
  have O2 := ho2.one
  try simp (disch := first | omega | (simp only [PL]; omega)) only [PS, P1, P2, P3, P4, P5, P6, P7, P8, PA, PB, PC, Nat.reduceAdd, Nat.reduceSub, Nat.reduceMul, Nat.reduceLeDiff, Nat.reduceEqDiff, Nat.succ_ne_self, reduceCtorEq, Int.reduceToNat, Int.cast_ofNat_Int, Int.reduceEq, Int.reduceNe, Int.reduceLT, Int.reduceLE, A22, R2, id, Re2]
  refine i_cond (fun c2 => ?_) (fun c2 => ?_)
  rotate_left
  · have : i = row.length := by omega
    subst this
    rw [List.take_length, ← hsnoc] at ho2
    try simp (disch := first | omega | (simp only [PL]; omega)) only [PS, P1, P2, P3, P4, P5, P6, P7, P8, PA, PB, PC, Nat.reduceAdd, Nat.reduceSub, Nat.reduceMul, Nat.reduceLeDiff, Nat.reduceEqDiff, Nat.succ_ne_self, reduceCtorEq, Int.reduceToNat, Int.cast_ofNat_Int, Int.reduceEq, Int.reduceNe, Int.reduceLT, Int.reduceLE]
    exact k_loop (e + 1, v2) (by dsimp only; omega) (by try simp only [Pe, and_true, true_and, and_self]) ⟨by dsimp only; omega, by dsimp only; omega, ho2⟩
  have hi2 : i < row.length := by omega
  have hsn2 : tagsOfL (fT ++ (row.take (i + 1)).map (·.tag)) = insT (tagsOfL (fT ++ (row.take i).map (·.tag))) (row.getD i default).tag := by
    rw [take_succ_d default hi2, List.map_append, ← List.append_assoc]; exact tagsOfL_snoc _ _
  have hLl := tagsOfL_len (fT ++ (row.take i).map (·.tag))
  simp only [List.length_append, List.length_map, List.length_take] at hLl
  try simp (disch := first | omega | (simp only [PL]; omega)) only [PS, P1, P2, P3, P4, P5, P6, P7, P8, PA, PB, PC, Nat.reduceAdd, Nat.reduceSub, Nat.reduceMul, Nat.reduceLeDiff, Nat.reduceEqDiff, Nat.succ_ne_self, reduceCtorEq, Int.reduceToNat, Int.cast_ofNat_Int, Int.reduceEq, Int.reduceNe, Int.reduceLT, Int.reduceLE, A22, R2, id, Re2, Si.enc]
  generalize hL : tagsOfL (fT ++ (row.take i).map (·.tag)) = L at *
  generalize hs : (row.getD i default).tag = s at *
  have hLb : L.length ≤ 2000000 := by omega
  have RL := (ho2.sl (enc := encT) (fun _ => rfl)).rules1 (fun t => .string (str t)) (fun _ => rfl) default
  refine i_meet_blk (fun env h3 => h3 = h2 ∧ ∃ k, k ≤ L.length ∧ (∀ x ∈ L.take k, Op.bytesLess x s = true) ∧ (k < L.length → Op.bytesLess (L.getD k default) s = false) ∧ env = [some (.pointer (some a)), some (.int .i64 u), none, some v2, some (.int .i64 e), some (.int .i64 i), some (.string (str s)), some (.int .i64 k), none, none, none, none, none, none, none]) ?_ ?_
  rotate_left
  · refine i_loop (fun k : Nat => [some (.pointer (some a)), some (.int .i64 u), none, some v2, some (.int .i64 e), some (.int .i64 i), some (.string (str s)), some (.int .i64 k), none, none, none, none, none, none, none])
      (fun k h3 => h3 = h2 ∧ k ≤ L.length ∧ ∀ x ∈ L.take k, Op.bytesLess x s = true) (fun k => L.length - k) 0 (by try simp only [Pe, and_true, true_and, and_self]; rfl) ⟨rfl, by omega, by simp⟩ ?_
    rintro k h3 ⟨rfl, hk, hkl⟩
    by_cases hk2 : k < L.length
    · have hk3 : ((k : Int) < (L.length : Int)) = True := by simp; omega
      cases hb : Op.bytesLess (L.getD k default) s with
      | true =>
        try simp (disch := first | omega | (simp only [PL]; omega)) only [PS, P1, P2, P3, P4, P5, P6, P7, P8, PA, PB, PC, Nat.reduceAdd, Nat.reduceSub, Nat.reduceMul, Nat.reduceLeDiff, Nat.reduceEqDiff, Nat.succ_ne_self, reduceCtorEq, Int.reduceToNat, Int.cast_ofNat_Int, Int.reduceEq, Int.reduceNe, Int.reduceLT, Int.reduceLE, RL, hk3, hb]
        refine k_loop (k + 1) (by omega) (by try simp only [Pe, and_true, true_and, and_self]) ⟨rfl, by omega, fun x hx => ?_⟩
        rw [take_succ_d default hk2, List.mem_append, List.mem_singleton] at hx
        rcases hx with hx | rfl
        · exact hkl x hx
        · exact hb
      | false =>
        try simp (disch := first | omega | (simp only [PL]; omega)) only [PS, P1, P2, P3, P4, P5, P6, P7, P8, PA, PB, PC, Nat.reduceAdd, Nat.reduceSub, Nat.reduceMul, Nat.reduceLeDiff, Nat.reduceEqDiff, Nat.succ_ne_self, reduceCtorEq, Int.reduceToNat, Int.cast_ofNat_Int, Int.reduceEq, Int.reduceNe, Int.reduceLT, Int.reduceLE, RL, hk3, hb]
        exact k_meet _ (by try simp only [Pe, and_true, true_and, and_self]) ⟨rfl, k, hk, hkl, fun _ => hb, rfl⟩
    · have hk3 : ((k : Int) < (L.length : Int)) = False := by simp; omega
      try simp (disch := first | omega | (simp only [PL]; omega)) only [PS, P1, P2, P3, P4, P5, P6, P7, P8, PA, PB, PC, Nat.reduceAdd, Nat.reduceSub, Nat.reduceMul, Nat.reduceLeDiff, Nat.reduceEqDiff, Nat.succ_ne_self, reduceCtorEq, Int.reduceToNat, Int.cast_ofNat_Int, Int.reduceEq, Int.reduceNe, Int.reduceLT, Int.reduceLE, RL, hk3]
      exact k_meet _ (by try simp only [Pe, and_true, true_and, and_self]) ⟨rfl, k, hk, hkl, fun h => absurd h hk2, rfl⟩
  rintro env h3 ⟨rfl, k, hk, hkl, hkn, rfl⟩
  have hins : insT L s = L.take k ++ insT (L.drop k) s := by
    conv => lhs; rw [← List.take_append_drop k L]
    exact insT_pre s _ _ hkl
  by_cases hin : k < L.length ∧ L.getD k default = s
  · obtain ⟨hk2, hks⟩ := hin
    have hk3 : ((k : Int) < (L.length : Int)) = True := by simp; omega
    have hL2 : insT L s = L := by
      rw [hins]
      have h1 : L.drop k = L.getD k default :: L.drop (k + 1) := by
        rw [List.drop_eq_getElem_cons hk2]; simp [List.getD_eq_getElem?_getD, hk2]
      rw [h1]
      simp only [insT]
      rw [hkn hk2, if_neg (by simp), if_pos hks, ← h1, List.take_append_drop]
    rw [hL2] at hsn2
    try simp (disch := first | omega | (simp only [PL]; omega)) only [PS, P1, P2, P3, P4, P5, P6, P7, P8, PA, PB, PC, Nat.reduceAdd, Nat.reduceSub, Nat.reduceMul, Nat.reduceLeDiff, Nat.reduceEqDiff, Nat.succ_ne_self, reduceCtorEq, Int.reduceToNat, Int.cast_ofNat_Int, Int.reduceEq, Int.reduceNe, Int.reduceLT, Int.reduceLE, RL, hk3, hks]
    refine k_loop (i + 1, v2) (by dsimp only; omega) (by try simp only [Pe, and_true, true_and, and_self]) ⟨by dsimp only; omega, ?_⟩
    dsimp only
    rw [hsn2]; exact ho2
  · have hL2 : insT L s = L.take k ++ [s] ++ L.drop k := by
      rw [hins]
      by_cases hk2 : k < L.length
      · have h1 : L.drop k = L.getD k default :: L.drop (k + 1) := by
          rw [List.drop_eq_getElem_cons hk2]; simp [List.getD_eq_getElem?_getD, hk2]
        rw [h1]
        simp only [insT]
        rw [hkn hk2, if_neg (by simp), if_neg (fun e => hin ⟨hk2, e⟩)]; simp
      · rw [List.drop_eq_nil_of_le (by omega)]; simp [insT]
    rw [hL2] at hsn2
    have O3 := ho2.one
    by_cases hk2 : k < L.length
    rotate_left
    have hk3 : ((k : Int) < (L.length : Int)) = False := by simp; omega
    try simp (disch := first | omega | (simp only [PL]; omega)) only [PS, P1, P2, P3, P4, P5, P6, P7, P8, PA, PB, PC, Nat.reduceAdd, Nat.reduceSub, Nat.reduceMul, Nat.reduceLeDiff, Nat.reduceEqDiff, Nat.succ_ne_self, reduceCtorEq, Int.reduceToNat, Int.cast_ofNat_Int, Int.reduceEq, Int.reduceNe, Int.reduceLT, Int.reduceLE, RL, hk3]
    rotate_left
    have hk3 : ((k : Int) < (L.length : Int)) = True := by simp; omega
    have hk4 : (L.getD k default = s) = False := by simpa using fun e => hin ⟨hk2, e⟩
    try simp (disch := first | omega | (simp only [PL]; omega)) only [PS, P1, P2, P3, P4, P5, P6, P7, P8, PA, PB, PC, Nat.reduceAdd, Nat.reduceSub, Nat.reduceMul, Nat.reduceLeDiff, Nat.reduceEqDiff, Nat.succ_ne_self, reduceCtorEq, Int.reduceToNat, Int.cast_ofNat_Int, Int.reduceEq, Int.reduceNe, Int.reduceLT, Int.reduceLE, RL, hk3, hk4]
    all_goals
      refine i_bslB encT 1 (fun _ => rfl) [[]] rfl rfl (by simp [maxLen]) fun x1 b1 h4 hle4 hb1 hx1 hS1 => ?_
      have O2' := hS1.one
      try simp (disch := first | omega | (simp only [PL]; omega)) only [PS, P1, P2, P3, P4, P5, P6, P7, P8, PA, PB, PC, Nat.reduceAdd, Nat.reduceSub, Nat.reduceMul, Nat.reduceLeDiff, Nat.reduceEqDiff, Nat.succ_ne_self, reduceCtorEq, Int.reduceToNat, Int.cast_ofNat_Int, Int.reduceEq, Int.reduceNe, Int.reduceLT, Int.reduceLE]
      refine i_app1 (enc := encT) (fun _ => rfl) (l' := [[]]) (by simp [encT, one]) (ho2.le hle4) (SlB.sl (enc := encT) (fun _ => rfl) (hS1.le (fr_le _ _))) (by simp; omega) fun v5 h5 ho5 => ?_
      obtain ⟨d, sv, c1, c2, c3⟩ := i_cpyS (N := N) (Γ := Γ) (enc := encT) (fun _ => rfl) (z := []) (fun _ _ => rfl) ho5 hk
      have O5 := ho5.one
      have R5 := ho5.sl (enc := encT) (fun _ => rfl)
      have Rl5 := (R5.rules1 (fun t => .string (str t)) (fun _ => rfl) default).1
      have e51 : (L ++ [([] : List UInt8)]).length = L.length + 1 := by simp
      rw [e51] at Rl5
      try simp (disch := first | omega | (simp only [PL]; omega)) only [PS, P1, P2, P3, P4, P5, P6, P7, P8, PA, PB, PC, Nat.reduceAdd, Nat.reduceSub, Nat.reduceMul, Nat.reduceLeDiff, Nat.reduceEqDiff, Nat.succ_ne_self, reduceCtorEq, Int.reduceToNat, Int.cast_ofNat_Int, Int.reduceEq, Int.reduceNe, Int.reduceLT, Int.reduceLE, Rl5, c1, c2]
      refine c3 _ fun uu h6 ho6 => ?_
      have hlen6 : ((L ++ [([] : List UInt8)]).take (k + 1) ++ L.drop k).length = L.length + 1 := by simp; omega
      have Rl6 := ((ho6.sl (enc := encT) (fun _ => rfl)).rules1 (fun t => .string (str t)) (fun _ => rfl) default)
      rw [hlen6] at Rl6
      try simp (disch := first | omega | (simp only [PL]; omega)) only [PS, P1, P2, P3, P4, P5, P6, P7, P8, PA, PB, PC, Nat.reduceAdd, Nat.reduceSub, Nat.reduceMul, Nat.reduceLeDiff, Nat.reduceEqDiff, Nat.succ_ne_self, reduceCtorEq, Int.reduceToNat, Int.cast_ofNat_Int, Int.reduceEq, Int.reduceNe, Int.reduceLT, Int.reduceLE, Rl6]
      have hst := fun K hK => i_stS (N := N) (Γ := Γ) (enc := encT) (sz := 1) (fun _ => rfl) s rfl ho6 (x := .string (str s)) (j := k) (by omega) rfl (K := K) hK
      rw [Nat.mul_one] at hst
      refine hst _ fun h7 ho7 => ?_
      try simp (disch := first | omega | (simp only [PL]; omega)) only [PS, P1, P2, P3, P4, P5, P6, P7, P8, PA, PB, PC, Nat.reduceAdd, Nat.reduceSub, Nat.reduceMul, Nat.reduceLeDiff, Nat.reduceEqDiff, Nat.succ_ne_self, reduceCtorEq, Int.reduceToNat, Int.cast_ofNat_Int, Int.reduceEq, Int.reduceNe, Int.reduceLT, Int.reduceLE]
      refine k_loop (i + 1, v5) (by dsimp only; omega) (by try simp only [Pe, and_true, true_and, and_self]) ⟨by dsimp only; omega, ?_⟩
      dsimp only
      rw [hsn2]
      have : ((L ++ [([] : List UInt8)]).take (k + 1) ++ L.drop k).set k s = L.take k ++ [s] ++ L.drop k := by
        have hkt : ((L ++ [([] : List UInt8)]).take (k + 1)).length = k + 1 := by simp; omega
        rw [List.set_append_left _ _ (by omega)]
        congr 1
        apply List.ext_getElem
        · simp
        · intro j h1 h2
          rw [List.getElem_set]
          by_cases e : k = j
          · subst e
            rw [if_pos rfl, List.getElem_append_right (by simp; omega)]
            simp
          · have hj : j < k := by simp at h2; omega
            rw [if_neg e, List.getElem_append_left (by simp; omega)]
            simp only [List.getElem_take]
            rw [List.getElem_append_left (by omega)]
      rw [this] at ho7
      exact ho7
end Go.Cw
namespace Go.Cw
open Go
structure K2 (h H gt gm F : Heap) : Prop where
  hF : Heap.le h F
  lF : Heap.le F H
  lt : Heap.le gt H
  lm : Heap.le gm H
  dtm : disj gt gm
  dtF : disj gt F
  dmF : disj gm F
theorem disj.sym {a b : Heap} (h : disj a b) : disj b a := by
  intro x hx
  cases e : a x with
  | none => rfl
  | some o => exact absurd (h x (by rw [e]; simp)) hx
theorem K2.le {h H gt gm F : Heap} (k : K2 h H gt gm F) : Heap.le h H := k.hF.trans k.lF
theorem K2.stepT {h H gt gm F gt' H' : Heap} (k : K2 h H gt gm F) (s : Step gt H gt' H') : K2 h H' gt' gm F :=
  let a := s.keep k.lm k.dtm.sym; let b := s.keep k.lF k.dtF.sym
  ⟨k.hF, b.1, s.le, a.1, a.2.sym, b.2.sym, k.dmF⟩
theorem K2.stepM {h H gt gm F gm' H' : Heap} (k : K2 h H gt gm F) (s : Step gm H gm' H') : K2 h H' gt gm' F :=
  let a := s.keep k.lt k.dtm; let b := s.keep k.lF k.dmF.sym
  ⟨k.hF, b.1, a.1, s.le, a.2, k.dtF, b.2.sym⟩
theorem K2.more {h H gt gm F H' : Heap} (k : K2 h H gt gm F) (hl : Heap.le H H') : K2 h H' gt gm F :=
  ⟨k.hF, k.lF.trans hl, k.lt.trans hl, k.lm.trans hl, k.dtm, k.dtF, k.dmF⟩
theorem disj_fr {a F H H' : Heap} (ha : Heap.le a H) (hd : disj a F) : disj a (join F (fr H H')) := by
  intro x hx
  cases e : a x with
  | none => exact absurd e hx
  | some o => exact join_none (hd x hx) (fr_none (ha x o e))
theorem K2.freeze {h H gt gm F H' : Heap} (k : K2 h H gt gm F) (hl : Heap.le H H') : K2 h H' gt gm (join F (fr H H')) :=
  ⟨k.hF.trans (join_l _ _), join_le (k.lF.trans hl) (fr_le _ _), k.lt.trans hl, k.lm.trans hl, k.dtm, disj_fr k.lt k.dtF, disj_fr k.lm k.dmF⟩
def light2 (L : List (List Si)) : Prop := light L ∧ ∀ l ∈ L, ∀ s ∈ l, s.tag.length ≤ 20
def S12t : Spec := fun args h K => ∃ v L, args = [v] ∧ SS h v L ∧ ∀ bb : Bool, (bb = true → light2 L) → K (.bool bb) h
theorem F12t_ok {N : Num} {Γ : Ctx} [GoodC Γ] : Sat S12t (SF N Γ F12) := by
  rintro _ h K ⟨v, L, rfl, ⟨vs, hv, hvl, hr⟩, hK⟩
  refine i_fun rfl ?_
  simp only [F12, env0, List.map, List.length, List.replicate, List.cons_append, List.nil_append, Nat.reduceSub, Nat.reduceAdd]
  have R := hv.rules1 id (fun _ => rfl) undef
  rw [hvl] at R
  try simp (disch := first | omega | (simp only [PL]; omega)) only [PS, P1, P2, P3, P4, P5, P6, P7, P8, PA, PB, PC, Nat.reduceAdd, Nat.reduceSub, Nat.reduceMul, Nat.reduceLeDiff, Nat.reduceEqDiff, Nat.succ_ne_self, reduceCtorEq, Int.reduceToNat, Int.cast_ofNat_Int, Int.reduceEq, Int.reduceNe, Int.reduceLT, Int.reduceLE, R]
  refine i_cond (fun c1 => ?_) (fun c1 => ?_)
  · try simp (disch := first | omega | (simp only [PL]; omega)) only [PS, P1, P2, P3, P4, P5, P6, P7, P8, PA, PB, PC, Nat.reduceAdd, Nat.reduceSub, Nat.reduceMul, Nat.reduceLeDiff, Nat.reduceEqDiff, Nat.succ_ne_self, reduceCtorEq, Int.reduceToNat, Int.cast_ofNat_Int, Int.reduceEq, Int.reduceNe, Int.reduceLT, Int.reduceLE]
    exact hK false (by simp)
  · try simp (disch := first | omega | (simp only [PL]; omega)) only [PS, P1, P2, P3, P4, P5, P6, P7, P8, PA, PB, PC, Nat.reduceAdd, Nat.reduceSub, Nat.reduceMul, Nat.reduceLeDiff, Nat.reduceEqDiff, Nat.succ_ne_self, reduceCtorEq, Int.reduceToNat, Int.cast_ofNat_Int, Int.reduceEq, Int.reduceNe, Int.reduceLT, Int.reduceLE]
    refine i_loop (fun i : Nat => [some v, none, some (.int .i64 i), none, none, none, none, none, none]) (fun i h1 => h1 = h ∧ i ≤ L.length ∧ ∀ l ∈ L.take i, l.length ≤ 25 ∧ ∀ s ∈ l, s.tag.length ≤ 20) (fun i => L.length - i) 0 (by try simp only [Pe, and_true, true_and, and_self]; rfl) ⟨rfl, by omega, by simp⟩ ?_
    rintro i h1 ⟨rfl, hi, hd⟩
    try simp (disch := first | omega | (simp only [PL]; omega)) only [PS, P1, P2, P3, P4, P5, P6, P7, P8, PA, PB, PC, Nat.reduceAdd, Nat.reduceSub, Nat.reduceMul, Nat.reduceLeDiff, Nat.reduceEqDiff, Nat.succ_ne_self, reduceCtorEq, Int.reduceToNat, Int.cast_ofNat_Int, Int.reduceEq, Int.reduceNe, Int.reduceLT, Int.reduceLE, R]
    refine i_cond (fun c2 => ?_) (fun c2 => ?_)
    · have hi2 : i < L.length := by omega
      have Ri := (hr i hi2).rules 4 Si.enc_len default
      try simp (disch := first | omega | (simp only [PL]; omega)) only [PS, P1, P2, P3, P4, P5, P6, P7, P8, PA, PB, PC, Nat.reduceAdd, Nat.reduceSub, Nat.reduceMul, Nat.reduceLeDiff, Nat.reduceEqDiff, Nat.succ_ne_self, reduceCtorEq, Int.reduceToNat, Int.cast_ofNat_Int, Int.reduceEq, Int.reduceNe, Int.reduceLT, Int.reduceLE, R, id, Ri]
      refine i_cond (fun c3 => ?_) (fun c3 => ?_)
      · try simp (disch := first | omega | (simp only [PL]; omega)) only [PS, P1, P2, P3, P4, P5, P6, P7, P8, PA, PB, PC, Nat.reduceAdd, Nat.reduceSub, Nat.reduceMul, Nat.reduceLeDiff, Nat.reduceEqDiff, Nat.succ_ne_self, reduceCtorEq, Int.reduceToNat, Int.cast_ofNat_Int, Int.reduceEq, Int.reduceNe, Int.reduceLT, Int.reduceLE]
        exact hK false (by simp)
      · try simp (disch := first | omega | (simp only [PL]; omega)) only [PS, P1, P2, P3, P4, P5, P6, P7, P8, PA, PB, PC, Nat.reduceAdd, Nat.reduceSub, Nat.reduceMul, Nat.reduceLeDiff, Nat.reduceEqDiff, Nat.succ_ne_self, reduceCtorEq, Int.reduceToNat, Int.cast_ofNat_Int, Int.reduceEq, Int.reduceNe, Int.reduceLT, Int.reduceLE]
        refine i_loop (fun k : Nat => [some v, none, some (.int .i64 i), some (.int .i64 k), none, none, none, none, none]) (fun k h2 => h2 = h1 ∧ k ≤ (L.getD i []).length ∧ ∀ s ∈ (L.getD i []).take k, s.tag.length ≤ 20) (fun k => (L.getD i []).length - k) 0 (by try simp only [Pe, and_true, true_and, and_self]; rfl) ⟨rfl, by omega, by simp⟩ ?_
        rintro k h2 ⟨rfl, hk, hkt⟩
        try simp (disch := first | omega | (simp only [PL]; omega)) only [PS, P1, P2, P3, P4, P5, P6, P7, P8, PA, PB, PC, Nat.reduceAdd, Nat.reduceSub, Nat.reduceMul, Nat.reduceLeDiff, Nat.reduceEqDiff, Nat.succ_ne_self, reduceCtorEq, Int.reduceToNat, Int.cast_ofNat_Int, Int.reduceEq, Int.reduceNe, Int.reduceLT, Int.reduceLE, R, id, Ri]
        refine i_cond (fun c4 => ?_) (fun c4 => ?_)
        · have hk2 : k < (L.getD i []).length := by omega
          try simp (disch := first | omega | (simp only [PL]; omega)) only [PS, P1, P2, P3, P4, P5, P6, P7, P8, PA, PB, PC, Nat.reduceAdd, Nat.reduceSub, Nat.reduceMul, Nat.reduceLeDiff, Nat.reduceEqDiff, Nat.succ_ne_self, reduceCtorEq, Int.reduceToNat, Int.cast_ofNat_Int, Int.reduceEq, Int.reduceNe, Int.reduceLT, Int.reduceLE, R, id, Ri, Si.enc]
          refine i_cond (fun c5 => ?_) (fun c5 => ?_)
          · try simp (disch := first | omega | (simp only [PL]; omega)) only [PS, P1, P2, P3, P4, P5, P6, P7, P8, PA, PB, PC, Nat.reduceAdd, Nat.reduceSub, Nat.reduceMul, Nat.reduceLeDiff, Nat.reduceEqDiff, Nat.succ_ne_self, reduceCtorEq, Int.reduceToNat, Int.cast_ofNat_Int, Int.reduceEq, Int.reduceNe, Int.reduceLT, Int.reduceLE]
            exact hK false (by simp)
          · try simp (disch := first | omega | (simp only [PL]; omega)) only [PS, P1, P2, P3, P4, P5, P6, P7, P8, PA, PB, PC, Nat.reduceAdd, Nat.reduceSub, Nat.reduceMul, Nat.reduceLeDiff, Nat.reduceEqDiff, Nat.succ_ne_self, reduceCtorEq, Int.reduceToNat, Int.cast_ofNat_Int, Int.reduceEq, Int.reduceNe, Int.reduceLT, Int.reduceLE]
            refine k_loop (k + 1) (by omega) (by try simp only [Pe, and_true, true_and, and_self]) ⟨rfl, by omega, fun s hs => ?_⟩
            rw [take_succ_d default hk2, List.mem_append, List.mem_singleton] at hs
            rcases hs with hs | rfl
            · exact hkt s hs
            · omega
        · try simp (disch := first | omega | (simp only [PL]; omega)) only [PS, P1, P2, P3, P4, P5, P6, P7, P8, PA, PB, PC, Nat.reduceAdd, Nat.reduceSub, Nat.reduceMul, Nat.reduceLeDiff, Nat.reduceEqDiff, Nat.succ_ne_self, reduceCtorEq, Int.reduceToNat, Int.cast_ofNat_Int, Int.reduceEq, Int.reduceNe, Int.reduceLT, Int.reduceLE]
          refine k_loop (i + 1) (by omega) (by try simp only [Pe, and_true, true_and, and_self]) ⟨rfl, by omega, ?_⟩
          intro l hl
          rw [take_succ_d [] hi2, List.mem_append, List.mem_singleton] at hl
          rcases hl with hl | rfl
          · exact hd l hl
          · refine ⟨by omega, fun s hs => hkt s ?_⟩
            rw [List.take_of_length_le (by omega)]; exact hs
    · try simp (disch := first | omega | (simp only [PL]; omega)) only [PS, P1, P2, P3, P4, P5, P6, P7, P8, PA, PB, PC, Nat.reduceAdd, Nat.reduceSub, Nat.reduceMul, Nat.reduceLeDiff, Nat.reduceEqDiff, Nat.succ_ne_self, reduceCtorEq, Int.reduceToNat, Int.cast_ofNat_Int, Int.reduceEq, Int.reduceNe, Int.reduceLT, Int.reduceLE]
      have : i = L.length := by omega
      subst this
      rw [List.take_length] at hd
      exact hK true (fun _ => ⟨⟨by omega, fun l hl => (hd l hl).1⟩, fun l hl => (hd l hl).2⟩)
end Go.Cw
namespace Go.Cw
open Go
theorem OwnS.lsl0 {α : Type} {enc : α → List Value} {sz : Nat} (he : ∀ x, (enc x).length = sz) {h0 h : Heap} {v : Value} {l : List α} {z : α} (ho : OwnS enc sz h0 h v (l ++ [z])) :
    ∃ v', (∀ k k', o3V (.lsl sz) (.v v) (.v (.int k 0)) (.v (.int k' (l.length : Int))) = some (.v v')) ∧ (∀ n, elt v' n = elt v n) ∧
      ∀ h1 h' (l' : List α), l'.length = l.length → OwnS enc sz h1 h' v (l' ++ [z]) → Sl enc h' v' l' := by
  obtain ⟨_, a, cap, rfl, h2, h3, h4⟩ := ho
  rcases h4 with ⟨_, e, _⟩ | ⟨b, c, t, rfl, hb0, hb, hcs, hc⟩
  · simp at e
  simp only [List.length_append, List.length_singleton] at h2
  refine ⟨.slice (some ⟨b, 0, none⟩) l.length cap, fun k k' => ?_, fun n => rfl, fun h1 h' l' hl ho' => ?_⟩
  · simp only [o3V]
    rw [if_pos ⟨by omega, by omega, by omega⟩, if_neg (by simp; omega)]
    simp [addr_zero]
  · obtain ⟨a', cap', e1, _, hr⟩ := ho'.sl he
    simp only [Value.slice.injEq] at e1
    obtain ⟨rfl, _, rfl⟩ := e1
    refine ⟨_, cap, by rw [hl], by omega, ?_⟩
    rcases hr with e | ⟨g, hg, hrow⟩
    · simp at e
    · refine .inr ⟨g, hg, ?_⟩
      obtain ⟨r1, c', t', fz, r2, r3, r4⟩ := hrow
      rw [List.flatMap_append, List.length_append] at r3
      refine ⟨r1, c', t', fz, r2, by omega, fun i hi => ?_⟩
      rw [r4 i (by rw [List.flatMap_append, List.length_append]; omega), List.flatMap_append, List.getElem?_append_left hi]
def goodE (L : List (List Si)) : List (List Si) := L.filter fun l => decide (∀ s ∈ l, ¬ s.bad)
theorem goodE_take {L : List (List Si)} {i : Nat} (hi : i < L.length) : goodE (L.take (i + 1)) = goodE (L.take i) ++ if (∀ s ∈ L.getD i [], ¬ s.bad) then [L.getD i []] else [] := by
  rw [take_succ_d [] hi]
  unfold goodE
  rw [List.filter_append]
  congr 1
  by_cases h : ∀ s ∈ L.getD i [], ¬ s.bad
  · rw [if_pos h, List.filter_cons_of_pos (by simpa using h)]; rfl
  · rw [if_neg h, List.filter_cons_of_neg (by simpa using h)]; rfl
def isGood (l : List Si) : Prop := ∀ s ∈ l, ¬ s.bad
instance (l : List Si) : Decidable (isGood l) := by unfold isGood; infer_instance
def addE (E : List (List Si)) (l : List Si) : List (List Si) := E ++ if isGood l then [l] else []
def errE (l : List Si) : Nat := if isGood l then 0 else 1
theorem S45_all {h : Heap} {K : Value → Heap → Prop} {g : Heap} {b : Nat} {v : Value} {window need : Nat} {E : List (List Si)} {l : List Si} (hs : Sl Si.enc h v l) (hT : RT g b window need E) (hg : Heap.le g h) (h1 : E.length < 1000) (h2 : l.length ≤ 1000)
    (hK : ∀ g' h', Step g h g' h' → RT g' b window need (addE E l) → K (.int .i64 (errE l : Nat)) h') : S45 [.pointer (some ⟨b, 0, none⟩), v] h K := by
  unfold addE errE at hK
  refine ⟨g, b, v, window, need, E, l, rfl, hs, hT, hg, h1, h2, fun hb => ?_, fun hb g' h' hS hT' => ?_⟩
  · have : ¬ isGood l := by rintro hgd; obtain ⟨s, hs, hb⟩ := hb; exact hgd s hs hb
    rw [if_neg this, if_neg this, List.append_nil] at hK
    exact hK g h (Step.refl hg) hT
  · have : isGood l := hb
    rw [if_pos this, if_pos this] at hK
    exact hK g' h' hS hT'
theorem S29_all {N : Num} {h : Heap} {K : Value → Heap → Prop} {g : Heap} {b : Nat} {v : Value} {window need : Nat} {E : List (List Si)} {l : List Si} (hs : Sl Si.enc h v l) (hT : TrO g b window need E) (hg : Heap.le g h) (hok : TrOk window need E) (h1 : E.length < 100000) (h2 : l.length ≤ 1000000)
    (hK : ∀ g' h', Step g h g' h' → TrO g' b window need (addE E l) → K (errV N (errE l)) h') : S29 N [.pointer (some ⟨b, 0, none⟩), v] h K := by
  unfold addE errE at hK
  refine ⟨b, v, l, g, window, need, E, rfl, hs, hT, hg, hok, h1, h2, fun hb h' hl => ?_, fun hb h' g' hS hT' => ?_⟩
  · have : ¬ isGood l := by rintro hgd; obtain ⟨s, hs, hb⟩ := hb; exact hgd s hs hb
    rw [if_neg this, if_neg this, List.append_nil] at hK
    exact hK g h' (Step.more hg hl) hT
  · have : isGood l := hb
    rw [if_pos this, if_pos this] at hK
    exact hK g' h' hS hT'
def S13 (N : Num) : Spec := fun args h K => ∃ w n v L, args = [.int .i64 w, .int .i64 n, v] ∧ SS h v L ∧ light2 L ∧
  (newBad w n → ∀ h', Heap.le h h' → K (.tuple #[.pointer none, .pointer none, .bool true, .bool true]) h') ∧
  (¬ newBad w n → ∀ bt bm H gt gm F, K2 h H gt gm F → TrO gt bt w.toNat n.toNat (goodE L) → RT gm bm w.toNat n.toNat (goodE L) → K (.tuple #[.pointer (some ⟨bt, 0, none⟩), .pointer (some ⟨bm, 0, none⟩), .bool false, .bool true]) H)
theorem F13_ok {N : Num} {Γ : Ctx} [GoodC Γ] (H28 : Sat (S28 N) (Γ 28)) (H19 : Sat (S19 N) (Γ 19)) (H51 : Sat S51 (Γ 51)) (H45 : Sat S45 (Γ 45)) (H29 : Sat (S29 N) (Γ 29)) (H31 : Sat S31 (Γ 31)) : Sat (S13 N) (SF N Γ F13) := by
  rintro _ h K ⟨w, n, v, L, rfl, hL, hli, hK1, hK2⟩
  refine i_fun rfl ?_
  simp only [F13, env0, List.map, List.length, List.replicate, List.cons_append, List.nil_append, Nat.reduceSub, Nat.reduceAdd]
  obtain ⟨vs, hv, hvl, hr⟩ := hL
  have R := hv.rules1 id (fun _ => rfl) undef
  rw [hvl] at R
  try simp (disch := first | omega | (simp only [PL]; omega)) only [PS, P1, P2, P3, P4, P5, P6, P7, P8, PA, PB, PC, Nat.reduceAdd, Nat.reduceSub, Nat.reduceMul, Nat.reduceLeDiff, Nat.reduceEqDiff, Nat.succ_ne_self, reduceCtorEq, Int.reduceToNat, Int.cast_ofNat_Int, Int.reduceEq, Int.reduceNe, Int.reduceLT, Int.reduceLE]
  refine i_call H28 ⟨w, n, rfl, fun hb h1 hle1 => ?_, fun hb bt h1 hbt hle1 hT => ?_⟩
  · have hb' := hb
    simp only [newBad] at hb'
    try simp (disch := first | omega | (simp only [PL]; omega)) only [PS, P1, P2, P3, P4, P5, P6, P7, P8, PA, PB, PC, Nat.reduceAdd, Nat.reduceSub, Nat.reduceMul, Nat.reduceLeDiff, Nat.reduceEqDiff, Nat.succ_ne_self, reduceCtorEq, Int.reduceToNat, Int.cast_ofNat_Int, Int.reduceEq, Int.reduceNe, Int.reduceLT, Int.reduceLE]
    refine i_cond (fun c1 => ?_) (fun c1 => by exfalso; omega)
    try simp (disch := first | omega | (simp only [PL]; omega)) only [PS, P1, P2, P3, P4, P5, P6, P7, P8, PA, PB, PC, Nat.reduceAdd, Nat.reduceSub, Nat.reduceMul, Nat.reduceLeDiff, Nat.reduceEqDiff, Nat.succ_ne_self, reduceCtorEq, Int.reduceToNat, Int.cast_ofNat_Int, Int.reduceEq, Int.reduceNe, Int.reduceLT, Int.reduceLE]
    refine i_call H19 ⟨1, 1, rfl, ?_⟩
    try simp (disch := first | omega | (simp only [PL]; omega)) only [PS, P1, P2, P3, P4, P5, P6, P7, P8, PA, PB, PC, Nat.reduceAdd, Nat.reduceSub, Nat.reduceMul, Nat.reduceLeDiff, Nat.reduceEqDiff, Nat.succ_ne_self, reduceCtorEq, Int.reduceToNat, Int.cast_ofNat_Int, Int.reduceEq, Int.reduceNe, Int.reduceLT, Int.reduceLE]
    exact hK1 hb h1 hle1
  have hb' := hb
  simp only [newBad] at hb'
  obtain ⟨window, rfl⟩ : ∃ k : Nat, w = k := ⟨w.toNat, by omega⟩
  obtain ⟨need, rfl⟩ : ∃ k : Nat, n = k := ⟨n.toNat, by omega⟩
  have hK2' := hK2 hb
  rw [Int.toNat_natCast, Int.toNat_natCast] at hK2' hT
  clear hK1 hK2
  try simp (disch := first | omega | (simp only [PL]; omega)) only [PS, P1, P2, P3, P4, P5, P6, P7, P8, PA, PB, PC, Nat.reduceAdd, Nat.reduceSub, Nat.reduceMul, Nat.reduceLeDiff, Nat.reduceEqDiff, Nat.succ_ne_self, reduceCtorEq, Int.reduceToNat, Int.cast_ofNat_Int, Int.reduceEq, Int.reduceNe, Int.reduceLT, Int.reduceLE]
  refine i_cond (fun c1 => by exfalso; omega) (fun c1 => ?_)
  try simp (disch := first | omega | (simp only [PL]; omega)) only [PS, P1, P2, P3, P4, P5, P6, P7, P8, PA, PB, PC, Nat.reduceAdd, Nat.reduceSub, Nat.reduceMul, Nat.reduceLeDiff, Nat.reduceEqDiff, Nat.succ_ne_self, reduceCtorEq, Int.reduceToNat, Int.cast_ofNat_Int, Int.reduceEq, Int.reduceNe, Int.reduceLT, Int.reduceLE]
  refine i_call H51 ⟨window, need, rfl, fun bm h2 hbm hle2 hM => ?_⟩
  try simp (disch := first | omega | (simp only [PL]; omega)) only [PS, P1, P2, P3, P4, P5, P6, P7, P8, PA, PB, PC, Nat.reduceAdd, Nat.reduceSub, Nat.reduceMul, Nat.reduceLeDiff, Nat.reduceEqDiff, Nat.succ_ne_self, reduceCtorEq, Int.reduceToNat, Int.cast_ofNat_Int, Int.reduceEq, Int.reduceNe, Int.reduceLT, Int.reduceLE]
  refine i_loop (fun i : Nat => [some (.int .i64 window), some (.int .i64 need), some v, some (.pointer (some ⟨bt, 0, none⟩)), some (.pointer (some ⟨bm, 0, none⟩)), none, none, none, some (.int .i64 i), none, none, none, none, none, none, none, none, none, none, none, none, none, none, none, none, none, none, none, none, none, none, none, none])
    (fun i H => i ≤ L.length ∧ ∃ gt gm F, K2 h H gt gm F ∧ TrO gt bt window need (goodE (L.take i)) ∧ RT gm bm window need (goodE (L.take i))) (fun i => L.length - i) 0 (by try simp only [Pe, and_true, true_and, and_self]; rfl) ?_ ?_
  · refine ⟨by omega, fr h h1, fr h1 h2, h, ⟨Heap.le.refl h, hle1.trans hle2, (fr_le h h1).trans hle2, fr_le h1 h2, ?_, ?_, ?_⟩, by simpa [goodE] using hT, by simpa [goodE] using hM⟩
    · intro x hx
      cases e : fr h h1 x with
      | none => exact absurd e hx
      | some o => exact fr_none (fr_le h h1 x o e)
    · intro x hx
      cases e : h x with
      | none => rfl
      | some o => exact absurd (fr_none e) hx
    · intro x hx
      cases e : h x with
      | none => rfl
      | some o => exact absurd (fr_none (hle1 x o e)) hx
  rintro i H ⟨hi, gt, gm, F, hk, hT, hM⟩
  have Rv := (hv.le hk.le).rules1 id (fun _ => rfl) undef
  rw [hvl] at Rv
  try simp (disch := first | omega | (simp only [PL]; omega)) only [PS, P1, P2, P3, P4, P5, P6, P7, P8, PA, PB, PC, Nat.reduceAdd, Nat.reduceSub, Nat.reduceMul, Nat.reduceLeDiff, Nat.reduceEqDiff, Nat.succ_ne_self, reduceCtorEq, Int.reduceToNat, Int.cast_ofNat_Int, Int.reduceEq, Int.reduceNe, Int.reduceLT, Int.reduceLE, Rv]
  refine i_cond (fun c1 => ?_) (fun c1 => ?_)
  rotate_left
  · have : i = L.length := by omega
    subst this
    rw [List.take_length] at hT hM
    try simp (disch := first | omega | (simp only [PL]; omega)) only [PS, P1, P2, P3, P4, P5, P6, P7, P8, PA, PB, PC, Nat.reduceAdd, Nat.reduceSub, Nat.reduceMul, Nat.reduceLeDiff, Nat.reduceEqDiff, Nat.succ_ne_self, reduceCtorEq, Int.reduceToNat, Int.cast_ofNat_Int, Int.reduceEq, Int.reduceNe, Int.reduceLT, Int.reduceLE]
    exact hK2' bt bm H gt gm F hk hT hM
  have hi2 : i < L.length := by omega
  have hrow := (hr i hi2).le hk.le
  have hrl : (L.getD i []).length ≤ 25 := hli.1.2 _ (getD_mem [] hi2)
  have Rr := hrow.rules 4 Si.enc_len default
  generalize hrw : L.getD i [] = row at *
  try simp (disch := first | omega | (simp only [PL]; omega)) only [PS, P1, P2, P3, P4, P5, P6, P7, P8, PA, PB, PC, Nat.reduceAdd, Nat.reduceSub, Nat.reduceMul, Nat.reduceLeDiff, Nat.reduceEqDiff, Nat.succ_ne_self, reduceCtorEq, Int.reduceToNat, Int.cast_ofNat_Int, Int.reduceEq, Int.reduceNe, Int.reduceLT, Int.reduceLE, Rv, id, Rr]
  refine i_meet_alt (fun env H2 => ∃ v22 v9 x, Heap.le H H2 ∧ OwnS Si.enc 4 H H2 v22 (row ++ [x]) ∧ (∀ n, elt v9 n = elt v22 n) ∧ (∀ h1 h' (l' : List Si), l'.length = row.length → OwnS Si.enc 4 h1 h' v22 (l' ++ [x]) → Sl Si.enc h' v9 l') ∧
    env = [some (.int .i64 window), some (.int .i64 need), some v, some (.pointer (some ⟨bt, 0, none⟩)), some (.pointer (some ⟨bm, 0, none⟩)), none, none, none, some (.int .i64 i), some v9, none, none, none, none, none, none, none, none, none, none, none, none, none, none, none, none, none, none, none, none, none, none, none]) ?_ ?_
  rotate_left
  · have hend : ∀ (H3 : Heap) (v22 : Value), OwnS Si.enc 4 H H3 v22 (row ++ [⟨77, 0, 0, []⟩]) → ∃ v9, (∀ k k', o3V (.lsl 4) (.v v22) (.v (.int k 0)) (.v (.int k' (row.length : Int))) = some (.v v9)) ∧ (∀ n, elt v9 n = elt v22 n) ∧
        (∀ h1 h' (l' : List Si), l'.length = row.length → OwnS Si.enc 4 h1 h' v22 (l' ++ [⟨77, 0, 0, []⟩]) → Sl Si.enc h' v9 l') := fun H3 v22 ho => ho.lsl0 Si.enc_len
    refine i_alt ?_ ?_
    · try simp (disch := first | omega | (simp only [PL]; omega)) only [PS, P1, P2, P3, P4, P5, P6, P7, P8, PA, PB, PC, Nat.reduceAdd, Nat.reduceSub, Nat.reduceMul, Nat.reduceLeDiff, Nat.reduceEqDiff, Nat.succ_ne_self, reduceCtorEq, Int.reduceToNat, Int.cast_ofNat_Int, Int.reduceEq, Int.reduceNe, Int.reduceLT, Int.reduceLE, Rv, id, Rr]
      refine i_app Si.enc_len Si.enc_one (OwnS.nil (Heap.le.refl H)) hrow (by simp only [List.length_nil]; omega) fun v1 H1 ho1 => ?_
      rw [List.nil_append] at ho1
      refine i_le (le_one ho1.1) ?_
      have O1 := ho1.one
      try simp (disch := first | omega | (simp only [PL]; omega)) only [PS, P1, P2, P3, P4, P5, P6, P7, P8, PA, PB, PC, Nat.reduceAdd, Nat.reduceSub, Nat.reduceMul, Nat.reduceLeDiff, Nat.reduceEqDiff, Nat.succ_ne_self, reduceCtorEq, Int.reduceToNat, Int.cast_ofNat_Int, Int.reduceEq, Int.reduceNe, Int.reduceLT, Int.reduceLE, O1.1, O1.2]
      refine i_bslB Si.enc 4 Si.enc_len [⟨77, 0, 0, []⟩] rfl rfl (by simp [maxLen]) fun x1 b1 H2 hle2 hb1 hx1 hS1 => ?_
      have O2 := hS1.one
      try simp (disch := first | omega | (simp only [PL]; omega)) only [PS, P1, P2, P3, P4, P5, P6, P7, P8, PA, PB, PC, Nat.reduceAdd, Nat.reduceSub, Nat.reduceMul, Nat.reduceLeDiff, Nat.reduceEqDiff, Nat.succ_ne_self, reduceCtorEq, Int.reduceToNat, Int.cast_ofNat_Int, Int.reduceEq, Int.reduceNe, Int.reduceLT, Int.reduceLE, O2.1, O2.2]
      refine i_lew (le_one (ho1.1.trans hle2)) ?_
      try simp (disch := first | omega | (simp only [PL]; omega)) only [PS, P1, P2, P3, P4, P5, P6, P7, P8, PA, PB, PC, Nat.reduceAdd, Nat.reduceSub, Nat.reduceMul, Nat.reduceLeDiff, Nat.reduceEqDiff, Nat.succ_ne_self, reduceCtorEq, Int.reduceToNat, Int.cast_ofNat_Int, Int.reduceEq, Int.reduceNe, Int.reduceLT, Int.reduceLE]
      refine i_app1 Si.enc_len (fun x _ => Si.enc_one x) (ho1.le hle2) (SlB.sl Si.enc_len (hS1.le (fr_le _ _))) (by simp only [List.length_singleton]; omega) fun v22 H3 ho3 => ?_
      obtain ⟨v9, q1, q2, q3⟩ := hend H3 v22 ho3
      try simp (disch := first | omega | (simp only [PL]; omega)) only [PS, P1, P2, P3, P4, P5, P6, P7, P8, PA, PB, PC, Nat.reduceAdd, Nat.reduceSub, Nat.reduceMul, Nat.reduceLeDiff, Nat.reduceEqDiff, Nat.succ_ne_self, reduceCtorEq, Int.reduceToNat, Int.cast_ofNat_Int, Int.reduceEq, Int.reduceNe, Int.reduceLT, Int.reduceLE]
      refine i_lew (le_one ho3.1) ?_
      try simp (disch := first | omega | (simp only [PL]; omega)) only [PS, P1, P2, P3, P4, P5, P6, P7, P8, PA, PB, PC, Nat.reduceAdd, Nat.reduceSub, Nat.reduceMul, Nat.reduceLeDiff, Nat.reduceEqDiff, Nat.succ_ne_self, reduceCtorEq, Int.reduceToNat, Int.cast_ofNat_Int, Int.reduceEq, Int.reduceNe, Int.reduceLT, Int.reduceLE, q1]
      exact k_meet _ (by try simp only [Pe, and_true, true_and, and_self]) ⟨v22, v9, ⟨77, 0, 0, []⟩, ho3.1, ho3, q2, q3, rfl⟩
    · try simp (disch := first | omega | (simp only [PL]; omega)) only [PS, P1, P2, P3, P4, P5, P6, P7, P8, PA, PB, PC, Nat.reduceAdd, Nat.reduceSub, Nat.reduceMul, Nat.reduceLeDiff, Nat.reduceEqDiff, Nat.succ_ne_self, reduceCtorEq, Int.reduceToNat, Int.cast_ofNat_Int, Int.reduceEq, Int.reduceNe, Int.reduceLT, Int.reduceLE, Rv, id, Rr]
      refine i_bslB Si.enc 4 Si.enc_len [⟨77, 0, 0, []⟩] rfl rfl (by simp [maxLen]) fun x1 b1 H2 hle2 hb1 hx1 hS1 => ?_
      have O2 := hS1.one
      try simp (disch := first | omega | (simp only [PL]; omega)) only [PS, P1, P2, P3, P4, P5, P6, P7, P8, PA, PB, PC, Nat.reduceAdd, Nat.reduceSub, Nat.reduceMul, Nat.reduceLeDiff, Nat.reduceEqDiff, Nat.succ_ne_self, reduceCtorEq, Int.reduceToNat, Int.cast_ofNat_Int, Int.reduceEq, Int.reduceNe, Int.reduceLT, Int.reduceLE, O2.1, O2.2]
      refine i_le (le_one hle2) ?_
      try simp (disch := first | omega | (simp only [PL]; omega)) only [PS, P1, P2, P3, P4, P5, P6, P7, P8, PA, PB, PC, Nat.reduceAdd, Nat.reduceSub, Nat.reduceMul, Nat.reduceLeDiff, Nat.reduceEqDiff, Nat.succ_ne_self, reduceCtorEq, Int.reduceToNat, Int.cast_ofNat_Int, Int.reduceEq, Int.reduceNe, Int.reduceLT, Int.reduceLE]
      refine i_app Si.enc_len Si.enc_one (OwnS.nil (Heap.le.refl H2)) (hrow.le hle2) (by simp only [List.length_nil]; omega) fun v1 H1 ho1 => ?_
      rw [List.nil_append] at ho1
      have O1 := ho1.one
      try simp (disch := first | omega | (simp only [PL]; omega)) only [PS, P1, P2, P3, P4, P5, P6, P7, P8, PA, PB, PC, Nat.reduceAdd, Nat.reduceSub, Nat.reduceMul, Nat.reduceLeDiff, Nat.reduceEqDiff, Nat.succ_ne_self, reduceCtorEq, Int.reduceToNat, Int.cast_ofNat_Int, Int.reduceEq, Int.reduceNe, Int.reduceLT, Int.reduceLE, O1.1, O1.2]
      refine i_lew (le_one (hle2.trans ho1.1)) ?_
      try simp (disch := first | omega | (simp only [PL]; omega)) only [PS, P1, P2, P3, P4, P5, P6, P7, P8, PA, PB, PC, Nat.reduceAdd, Nat.reduceSub, Nat.reduceMul, Nat.reduceLeDiff, Nat.reduceEqDiff, Nat.succ_ne_self, reduceCtorEq, Int.reduceToNat, Int.cast_ofNat_Int, Int.reduceEq, Int.reduceNe, Int.reduceLT, Int.reduceLE]
      refine i_app1 Si.enc_len (fun x _ => Si.enc_one x) ho1 (SlB.sl Si.enc_len (hS1.le ((fr_le _ _).trans ho1.1))) (by simp only [List.length_singleton]; omega) fun v22 H3 ho3' => ?_
      have ho3 := ho3'.base hle2
      obtain ⟨v9, q1, q2, q3⟩ := hend H3 v22 ho3
      try simp (disch := first | omega | (simp only [PL]; omega)) only [PS, P1, P2, P3, P4, P5, P6, P7, P8, PA, PB, PC, Nat.reduceAdd, Nat.reduceSub, Nat.reduceMul, Nat.reduceLeDiff, Nat.reduceEqDiff, Nat.succ_ne_self, reduceCtorEq, Int.reduceToNat, Int.cast_ofNat_Int, Int.reduceEq, Int.reduceNe, Int.reduceLT, Int.reduceLE]
      refine i_lew (le_one ho3.1) ?_
      try simp (disch := first | omega | (simp only [PL]; omega)) only [PS, P1, P2, P3, P4, P5, P6, P7, P8, PA, PB, PC, Nat.reduceAdd, Nat.reduceSub, Nat.reduceMul, Nat.reduceLeDiff, Nat.reduceEqDiff, Nat.succ_ne_self, reduceCtorEq, Int.reduceToNat, Int.cast_ofNat_Int, Int.reduceEq, Int.reduceNe, Int.reduceLT, Int.reduceLE, q1]
      exact k_meet _ (by try simp only [Pe, and_true, true_and, and_self]) ⟨v22, v9, ⟨77, 0, 0, []⟩, ho3.1, ho3, q2, q3, rfl⟩
  rintro env H2 ⟨v22, v9, x, hle2, hO, hel9, hsl9, rfl⟩
  have hk2 := hk.freeze hle2
  have hrow2 := hrow.le hle2
  have Rv2 := (hv.le (hk.le.trans hle2)).rules1 id (fun _ => rfl) undef
  rw [hvl] at Rv2
  have h9 := hsl9 _ _ row rfl hO
  have htel : (goodE (L.take i)).length ≤ 25 := by
    have := List.length_filter_le (fun l => decide (∀ s ∈ l, ¬ s.bad)) (L.take i)
    have h3 : (L.take i).length ≤ 25 := by rw [List.length_take]; have := hli.1.1; omega
    unfold goodE; omega
  have hgd : ∀ l ∈ goodE (L.take i), isGood l ∧ l.length ≤ 25 := by
    intro l hl
    unfold goodE at hl
    obtain ⟨k1, k2⟩ := List.mem_filter.1 hl
    exact ⟨of_decide_eq_true k2, hli.1.2 l (List.mem_of_mem_take k1)⟩
  have hnext : goodE (L.take (i + 1)) = addE (goodE (L.take i)) row := by rw [goodE_take hi2, hrw]; rfl
  try simp (disch := first | omega | (simp only [PL]; omega)) only [PS, P1, P2, P3, P4, P5, P6, P7, P8, PA, PB, PC, Nat.reduceAdd, Nat.reduceSub, Nat.reduceMul, Nat.reduceLeDiff, Nat.reduceEqDiff, Nat.succ_ne_self, reduceCtorEq, Int.reduceToNat, Int.cast_ofNat_Int, Int.reduceEq, Int.reduceNe, Int.reduceLT, Int.reduceLE, Rv2, id]
  refine i_call H45 (S45_all hrow2 hM hk2.lm (by omega) (by omega) fun gm1 H3 hS3 hM3 => ?_)
  have hk3 := hk2.stepM hS3
  have h93 : Sl Si.enc H3 v9 row := by
    have : Heap.le (fr H H2) H3 := (join_r (hk.lF.trans hle2) (fr_le H H2)).trans hk3.lF
    have h1 := hO.slb.1
    have h2 : SlB Si.enc 4 (fr H H2) v22 (row ++ [x]) := h1.same fun b hb => by simp [fr, hO.slb.2 b hb]
    exact hsl9 _ _ row rfl ((h2.le this).own (h0 := fun _ => none) (fun _ _ h => by cases h) fun _ _ => rfl)
  try simp (disch := first | omega | (simp only [PL]; omega)) only [PS, P1, P2, P3, P4, P5, P6, P7, P8, PA, PB, PC, Nat.reduceAdd, Nat.reduceSub, Nat.reduceMul, Nat.reduceLeDiff, Nat.reduceEqDiff, Nat.succ_ne_self, reduceCtorEq, Int.reduceToNat, Int.cast_ofNat_Int, Int.reduceEq, Int.reduceNe, Int.reduceLT, Int.reduceLE]
  refine i_call H29 (S29_all h93 hT hk3.lt ⟨by omega, by omega, by omega, fun l hl => ⟨(hgd l hl).1, by have := (hgd l hl).2; omega⟩⟩ (by omega) (by omega) fun gt1 H4 hS4 hT4 => ?_)
  have hk4 := hk3.stepT hS4
  try simp (disch := first | omega | (simp only [PL]; omega)) only [PS, P1, P2, P3, P4, P5, P6, P7, P8, PA, PB, PC, Nat.reduceAdd, Nat.reduceSub, Nat.reduceMul, Nat.reduceLeDiff, Nat.reduceEqDiff, Nat.succ_ne_self, reduceCtorEq, Int.reduceToNat, Int.cast_ofNat_Int, Int.reduceEq, Int.reduceNe, Int.reduceLT, Int.reduceLE]
  refine i_call H19 ⟨errE row, errE row, rfl, ?_⟩
  obtain ⟨evm, fvm, hom, ⟨vsm, hvm, hvml, _⟩, _⟩ := hM3.read hk4.lm
  have Am : H4.cell ((⟨bm, 0, none⟩ : Addr).add 2) = some evm := hom.rules.1 2 (by simp)
  have Rm := hvm.rules1 id (fun _ => rfl) undef
  rw [hvml] at Rm
  rw [decide_eq_true rfl]
  try simp (disch := first | omega | (simp only [PL]; omega)) only [PS, P1, P2, P3, P4, P5, P6, P7, P8, PA, PB, PC, Nat.reduceAdd, Nat.reduceSub, Nat.reduceMul, Nat.reduceLeDiff, Nat.reduceEqDiff, Nat.succ_ne_self, reduceCtorEq, Int.reduceToNat, Int.cast_ofNat_Int, Int.reduceEq, Int.reduceNe, Int.reduceLT, Int.reduceLE, Am, Rm]
  refine i_call H31 ⟨gt1, bt, window, need, _, rfl, hT4, hk4.lt, ?_⟩
  refine i_le (le_one (Heap.le.refl _)) ?_
  try simp (disch := first | omega | (simp only [PL]; omega)) only [PS, P1, P2, P3, P4, P5, P6, P7, P8, PA, PB, PC, Nat.reduceAdd, Nat.reduceSub, Nat.reduceMul, Nat.reduceLeDiff, Nat.reduceEqDiff, Nat.succ_ne_self, reduceCtorEq, Int.reduceToNat, Int.cast_ofNat_Int, Int.reduceEq, Int.reduceNe, Int.reduceLT, Int.reduceLE]
  have hown : SlB Si.enc 4 H4 v22 (row ++ [x]) := by
    have h1 : Heap.le (fr H H2) H4 := (join_r (hk.lF.trans hle2) (fr_le H H2)).trans hk4.lF
    have h2 : SlB Si.enc 4 (fr H H2) v22 (row ++ [x]) := hO.slb.1.same fun b hb => by simp [fr, hO.slb.2 b hb]
    exact h2.le h1
  have hownF : ∀ b, blkOf v22 = some b → (fr H H2) b ≠ none := by
    have h2 : SlB Si.enc 4 (fr H H2) v22 (row ++ [x]) := hO.slb.1.same fun b hb => by simp [fr, hO.slb.2 b hb]
    exact fun b hb => h2.mem hb
  obtain ⟨h0, hh0⟩ : ∃ h0 : Heap, h0 = fun b => if blkOf v22 = some b then none else H4 b := ⟨_, rfl⟩
  have hle0 : Heap.le h0 H4 := by
    intro b o hb; rw [hh0] at hb; dsimp only at hb; split at hb
    · cases hb
    · exact hb
  have hO4 : OwnS Si.enc 4 h0 H4 v22 (row ++ [x]) := hown.own hle0 fun b hb => by rw [hh0]; simp [hb]
  have hkeep : ∀ G : Heap, Heap.le G H4 → (∀ b, blkOf v22 = some b → G b = none) → Heap.le G h0 := by
    intro G hG hn b o hb
    rw [hh0]
    dsimp only
    rw [if_neg fun e => by rw [hn b e] at hb; cases hb]
    exact hG b o hb
  have hgn : ∀ G : Heap, disj G (join F (fr H H2)) → ∀ b, blkOf v22 = some b → G b = none := by
    intro G hd b hb
    refine hd.sym b ?_
    simp only [join]
    cases e : F b with
    | some o => simp
    | none => simpa using hownF b hb
  have hFn0 : ∀ b, blkOf v22 = some b → F b = none := fun b hb => le_none hk.lF b (hO.slb.2 b hb)
  have hF0 : Heap.le F h0 := hkeep F ((join_l _ _).trans hk4.lF) hFn0
  have ht0 := hkeep gt1 hk4.lt (hgn gt1 hk4.dtF)
  have hm0 := hkeep gm1 hk4.lm (hgn gm1 hk4.dmF)
  refine i_loop (fun k : Nat => [some (.int .i64 window), some (.int .i64 need), some v, some (.pointer (some ⟨bt, 0, none⟩)), some (.pointer (some ⟨bm, 0, none⟩)), none, none, none, some (.int .i64 i), some v9, none, some (.int .i64 k), none, none, none, none, none, none, none, none, none, none, none, none, none, none, none, none, none, none, none, none, none])
    (fun k H5 => k ≤ row.length ∧ ∃ l' : List Si, l'.length = row.length ∧ OwnS Si.enc 4 h0 H5 v22 (l' ++ [x])) (fun k => row.length - k) 0 (by try simp only [Pe, and_true, true_and, and_self]; rfl) ⟨by omega, row, rfl, hO4⟩ ?_
  rintro k H5 ⟨hkk, l', hl', hO5⟩
  have R9 := (hsl9 _ _ l' hl' hO5).rules 4 Si.enc_len default
  rw [hl'] at R9
  try simp (disch := first | omega | (simp only [PL]; omega)) only [PS, P1, P2, P3, P4, P5, P6, P7, P8, PA, PB, PC, Nat.reduceAdd, Nat.reduceSub, Nat.reduceMul, Nat.reduceLeDiff, Nat.reduceEqDiff, Nat.succ_ne_self, reduceCtorEq, Int.reduceToNat, Int.cast_ofNat_Int, Int.reduceEq, Int.reduceNe, Int.reduceLT, Int.reduceLE, R9]
  refine i_cond (fun c2 => ?_) (fun c2 => ?_)
  · try simp (disch := first | omega | (simp only [PL]; omega)) only [PS, P1, P2, P3, P4, P5, P6, P7, P8, PA, PB, PC, Nat.reduceAdd, Nat.reduceSub, Nat.reduceMul, Nat.reduceLeDiff, Nat.reduceEqDiff, Nat.succ_ne_self, reduceCtorEq, Int.reduceToNat, Int.cast_ofNat_Int, Int.reduceEq, Int.reduceNe, Int.reduceLT, Int.reduceLE, R9]
    have hst := fun K hK => i_stS (N := N) (Γ := Γ) (enc := Si.enc) (sz := 4) Si.enc_len ⟨7, 0, 0, [111, 116, 104, 101, 114]⟩ rfl hO5 (x := .agg #[.int .i64 7, .int .i64 0, .int .i64 0, .string (str [111, 116, 104, 101, 114])]) (j := k) (by simp; omega) rfl (K := K) hK
    rw [← hel9] at hst
    refine hst _ fun H6 hO6 => ?_
    try simp (disch := first | omega | (simp only [PL]; omega)) only [PS, P1, P2, P3, P4, P5, P6, P7, P8, PA, PB, PC, Nat.reduceAdd, Nat.reduceSub, Nat.reduceMul, Nat.reduceLeDiff, Nat.reduceEqDiff, Nat.succ_ne_self, reduceCtorEq, Int.reduceToNat, Int.cast_ofNat_Int, Int.reduceEq, Int.reduceNe, Int.reduceLT, Int.reduceLE]
    refine k_loop (k + 1) (by omega) (by try simp only [Pe, and_true, true_and, and_self]) ⟨by omega, l'.set k ⟨7, 0, 0, [111, 116, 104, 101, 114]⟩, by simpa using hl', ?_⟩
    rw [List.set_append_left _ _ (by omega)] at hO6
    exact hO6
  · have hl25 : L.length ≤ 25 := hli.1.1
    try simp (disch := first | omega | (simp only [PL]; omega)) only [PS, P1, P2, P3, P4, P5, P6, P7, P8, PA, PB, PC, Nat.reduceAdd, Nat.reduceSub, Nat.reduceMul, Nat.reduceLeDiff, Nat.reduceEqDiff, Nat.succ_ne_self, reduceCtorEq, Int.reduceToNat, Int.cast_ofNat_Int, Int.reduceEq, Int.reduceNe, Int.reduceLT, Int.reduceLE]
    refine k_loop (i + 1) (by omega) (by try simp only [Pe, and_true, true_and, and_self]) ⟨by omega, gt1, gm1, F, ⟨hk.hF, hF0.trans hO5.1, ht0.trans hO5.1, hm0.trans hO5.1, hk4.dtm, fun x hx => le_none (join_l _ _) x (hk4.dtF x hx), fun x hx => le_none (join_l _ _) x (hk4.dmF x hx)⟩, by rw [hnext]; exact hT4, by rw [hnext]; exact hM3⟩
end Go.Cw
namespace Go.Cw
open Go
def x1 : Si := ⟨3, 0, 0, [120]⟩
end Go.Cw
namespace Go.Cw
open Go
end Go.Cw
namespace Go.Cw
open Go
def rfA (N : Num) (Γ : Ctx) (body : St) (Q2 : SE → Env → Heap → Prop) : SE → Env → Heap → Prop := fun x env G => match x with
  | .normal => SW N Γ body Q2 env G
  | _ => False
def rfB (J : Heap → Prop) (Q : SE → Env → Heap → Prop) (env0 : Env) : SE → Env → Heap → Prop := fun y _ G => match y with
  | .normal => J G
  | y => Q y env0 G
@[congr] theorem rfA_congr {N : Num} {Γ : Ctx} {body : St} {Q2 : SE → Env → Heap → Prop} {x : SE} {env env' : Env} {G : Heap} (e : env = env') : rfA N Γ body Q2 x env G = rfA N Γ body Q2 x env' G := by rw [e]
@[congr] theorem rfB_congr {J : Heap → Prop} {Q : SE → Env → Heap → Prop} {env0 : Env} {x : SE} {env env' : Env} {G : Heap} (_e : env = env') : rfB J Q env0 x env G = rfB J Q env0 x env' G := by rw [_e]
instance {N : Num} {Γ : Ctx} [GoodC Γ] {body : St} {Q2 : SE → Env → Heap → Prop} [MonoQ Q2] : MonoQ (rfA N Γ body Q2) where
  up := by
    intro e env env' h hl hx
    cases e with
    | normal => exact SW_mono GoodC.imp body (fun hl hx => MonoQ.up hl hx) hl hx
    | exit i => exact hx
    | ret => exact hx
instance {J : Heap → Prop} {Q : SE → Env → Heap → Prop} {env0 : Env} : MonoQ (rfB J Q env0) where
  up := by
    intro e env env' h hl hx
    cases e with
    | normal => exact hx
    | exit i => exact hx
    | ret => exact hx
section
variable {κ ν : Type}
theorem MapB.uniq {ek : κ → Value} {ev : ν → Value} {g g' : Heap} {m : Nat} {kv : List (κ × ν)} {bs : List Nat} {ck : Nat} (h : MapB ek ev g m kv bs ck) (h' : MapB ek ev g' m kv bs ck) : g m = g' m := by
  obtain ⟨es, h1, h2, _⟩ := h
  obtain ⟨es', h1', h2', _⟩ := h'
  have : es = es' := by apply Array.toList_inj.1; rw [h2, h2']
  rw [h1, h1', this]
end
end Go.Cw
namespace Go.Cw
open Go
end Go.Cw
namespace Go.Cw
open Go
structure Tg where
  kind : Int
  filter : Int
  part : Int
  company : Int
  ref : Int
  serial : Int
  deriving DecidableEq, Inhabited
def Tg.enc (t : Tg) : List Value := [.int .i64 t.kind, .int .i64 t.filter, .int .i64 t.part, .int .i64 t.company, .int .i64 t.ref, .int .i64 t.serial]
def Tg.zero : Tg := ⟨0, 0, 0, 0, 0, 0⟩
structure Pa where
  cb : Nat
  cd : Nat
  rb : Nat
  rd : Nat
  deriving DecidableEq, Inhabited
def Pa.enc (p : Pa) : List Value := [.int .i64 p.cb, .int .i64 p.cd, .int .i64 p.rb, .int .i64 p.rd]
def partsOf (p : Int) : Option Pa :=
  if p = 0 then some ⟨20, 6, 6, 1⟩ else if p = 1 then some ⟨17, 5, 9, 2⟩ else if p = 2 then some ⟨14, 4, 12, 3⟩ else if p = 3 then some ⟨10, 3, 16, 4⟩ else if p = 4 then some ⟨7, 2, 19, 5⟩ else if p = 5 then some ⟨4, 1, 22, 6⟩ else none
theorem partsOf_none {p : Int} : partsOf p = none ↔ p < 0 ∨ 6 ≤ p := by
  unfold partsOf
  repeat' split
  all_goals simp
  all_goals omega
theorem partsOf_some {p : Int} {a : Pa} (h : partsOf p = some a) : a.cb + a.rb = 26 ∧ 1 ≤ a.cd ∧ a.cd ≤ 6 ∧ 1 ≤ a.rd ∧ a.rd ≤ 6 ∧ 4 ≤ a.cb ∧ a.cb ≤ 20 ∧ 6 ≤ a.rb ∧ a.rb ≤ 22 := by
  unfold partsOf at h
  repeat' split at h
  all_goals first | (cases h; done) | (cases h; simp)
def Tg.bad (t : Tg) : Prop := match partsOf t.part with
  | none => True
  | some a => t.kind < 1 ∨ 3 < t.kind ∨ t.filter < 0 ∨ 7 < t.filter ∨ t.serial < 0 ∨ 16777215 < t.serial ∨ t.company < 0 ∨ (10 ^ a.cd : Nat) ≤ t.company ∨ t.ref < 0 ∨ (10 ^ a.rd : Nat) ≤ t.ref
instance Tg.decBad (t : Tg) : Decidable t.bad := by unfold Tg.bad; split <;> infer_instance
def num (b : List UInt8) : Nat := b.foldl (fun a x => a * 256 + x.toNat) 0
theorem num_snoc (b : List UInt8) (x : UInt8) : num (b ++ [x]) = num b * 256 + x.toNat := by simp [num]
theorem num_lt (b : List UInt8) : num b < 256 ^ b.length := by
  induction b using snoc_ind with
  | h0 => simp [num]
  | hs b x ih =>
    have := x.toNat_lt
    rw [num_snoc, List.length_append, List.length_singleton, Nat.pow_succ]
    omega
def bitAt (b : List UInt8) (i : Nat) : Nat := (b.getD (i / 8) 0).toNat / 2 ^ (7 - i % 8) % 2
theorem mod256_bit (y : Nat) {s : Nat} (hs : s ≤ 7) : (y % 256) / 2 ^ s % 2 = y / 2 ^ s % 2 := by
  have : s = 0 ∨ s = 1 ∨ s = 2 ∨ s = 3 ∨ s = 4 ∨ s = 5 ∨ s = 6 ∨ s = 7 := by omega
  rcases this with rfl | rfl | rfl | rfl | rfl | rfl | rfl | rfl <;> simp only [Nat.reducePow] <;> omega
theorem byte_num {b : List UInt8} (hb : b.length = 8) {j : Nat} (hj : j < 8) : (b.getD j 0).toNat = num b / 2 ^ (56 - 8 * j) % 256 := by
  match b, hb with
  | [b0, b1, b2, b3, b4, b5, b6, b7], _ =>
    have h0 := b0.toNat_lt
    have h1 := b1.toNat_lt
    have h2 := b2.toNat_lt
    have h3 := b3.toNat_lt
    have h4 := b4.toNat_lt
    have h5 := b5.toNat_lt
    have h6 := b6.toNat_lt
    have h7 := b7.toNat_lt
    unfold num
    simp only [List.foldl_cons, List.foldl_nil]
    have : j = 0 ∨ j = 1 ∨ j = 2 ∨ j = 3 ∨ j = 4 ∨ j = 5 ∨ j = 6 ∨ j = 7 := by omega
    rcases this with rfl | rfl | rfl | rfl | rfl | rfl | rfl | rfl <;> simp only [List.getD_cons_zero, List.getD_cons_succ, Nat.reduceMul, Nat.reduceSub, Nat.reducePow] <;> omega
theorem bitAt_num {b : List UInt8} (hb : b.length = 8) {i : Nat} (hi : i < 64) : bitAt b i = num b / 2 ^ (63 - i) % 2 := by
  unfold bitAt
  rw [byte_num hb (show i / 8 < 8 by omega), mod256_bit _ (by omega), Nat.div_div_eq_div_mul, ← Nat.pow_add]
  congr 3; omega
def rdBits (b : List UInt8) (at_ : Nat) : Nat → Nat
  | 0 => 0
  | k + 1 => 2 * rdBits b at_ k + bitAt b (at_ + k)
theorem rdBits_num {b : List UInt8} (hb : b.length = 8) (at_ : Nat) : ∀ k, at_ + k ≤ 64 → rdBits b at_ k = num b / 2 ^ (64 - at_ - k) % 2 ^ k := by
  intro k
  induction k with
  | zero => intro _; simp [rdBits, Nat.mod_one]
  | succ k ih =>
    intro h
    rw [rdBits, ih (by omega), bitAt_num hb (by omega)]
    have e1 : 64 - at_ - k = (64 - at_ - (k + 1)) + 1 := by omega
    have e2 : 63 - (at_ + k) = 64 - at_ - (k + 1) := by omega
    rw [e1, e2, Nat.pow_succ, Nat.pow_succ, ← Nat.div_div_eq_div_mul, Nat.mul_comm (2 ^ k) 2, Nat.mod_mul]
    omega
def tagAt (n : Nat) (a : Pa) : Tg := ⟨((n / 2 ^ 56 : Nat) : Int) - 47, (n / 2 ^ 53 % 8 : Nat), (n / 2 ^ 50 % 8 : Nat), (n / 2 ^ (24 + a.rb) % 2 ^ a.cb : Nat), (n / 2 ^ 24 % 2 ^ a.rb : Nat), (n % 2 ^ 24 : Nat)⟩
def tagOf (b : List UInt8) : Option Tg :=
  if b.length ≠ 8 then none else match partsOf (num b / 2 ^ 50 % 8 : Nat) with
    | none => none
    | some a => if (tagAt (num b) a).bad then none else some (tagAt (num b) a)
def kindOf (b : List UInt8) : Int := match tagOf b with
  | none => 0
  | some t => t.kind
end Go.Cw
namespace Go.Cw
open Go
theorem i_cal {N : Num} {Γ : Ctx} {S : Spec} {k : Nat} {us : List Value} {caps : Array Value} {h : Heap} {K : Value → Heap → Prop} (hs : Sat S (Γ k)) (hx : S (us ++ caps.toList) h K) : efW N Γ .cal (.func (.func (N.fid k)) #[] caps :: us) h K := ⟨k, rfl, rfl, hs _ _ _ hx⟩
def paV (p : Int) : Value := .agg ((partsOf p).elim [.int .i64 0, .int .i64 0, .int .i64 0, .int .i64 0] Pa.enc).toArray
def S79 : Spec := fun args h K => ∃ p, args = [.int .i64 p] ∧ K (.tuple #[paV p, .bool (partsOf p).isSome]) h
theorem F79_ok {N : Num} {Γ : Ctx} [GoodC Γ] : Sat S79 (SF N Γ F79) := by
  rintro _ h K ⟨p, rfl, hK⟩
  refine i_fun rfl ?_
  simp only [F79, env0, List.map, List.length, List.replicate, List.cons_append, List.nil_append, Nat.reduceSub, Nat.reduceAdd]
  unfold paV partsOf at hK
  try simp (disch := first | omega | (simp only [PL]; omega)) only [PS, P1, P2, P3, P4, P5, P6, P7, P8, PA, PB, PC, Nat.reduceAdd, Nat.reduceSub, Nat.reduceMul, Nat.reduceLeDiff, Nat.reduceEqDiff, Nat.succ_ne_self, reduceCtorEq, Int.reduceToNat, Int.cast_ofNat_Int, Int.reduceEq, Int.reduceNe, Int.reduceLT, Int.reduceLE]
  refine i_cond (fun c => ?_) (fun c => ?_)
  · rw [if_pos (by omega)] at hK
    try simp (disch := first | omega | (simp only [PL]; omega)) only [PS, P1, P2, P3, P4, P5, P6, P7, P8, PA, PB, PC, Nat.reduceAdd, Nat.reduceSub, Nat.reduceMul, Nat.reduceLeDiff, Nat.reduceEqDiff, Nat.succ_ne_self, reduceCtorEq, Int.reduceToNat, Int.cast_ofNat_Int, Int.reduceEq, Int.reduceNe, Int.reduceLT, Int.reduceLE]
    exact hK
  rw [if_neg (by omega)] at hK
  try simp (disch := first | omega | (simp only [PL]; omega)) only [PS, P1, P2, P3, P4, P5, P6, P7, P8, PA, PB, PC, Nat.reduceAdd, Nat.reduceSub, Nat.reduceMul, Nat.reduceLeDiff, Nat.reduceEqDiff, Nat.succ_ne_self, reduceCtorEq, Int.reduceToNat, Int.cast_ofNat_Int, Int.reduceEq, Int.reduceNe, Int.reduceLT, Int.reduceLE]
  refine i_cond (fun c => ?_) (fun c => ?_)
  · rw [if_pos (by omega)] at hK
    try simp (disch := first | omega | (simp only [PL]; omega)) only [PS, P1, P2, P3, P4, P5, P6, P7, P8, PA, PB, PC, Nat.reduceAdd, Nat.reduceSub, Nat.reduceMul, Nat.reduceLeDiff, Nat.reduceEqDiff, Nat.succ_ne_self, reduceCtorEq, Int.reduceToNat, Int.cast_ofNat_Int, Int.reduceEq, Int.reduceNe, Int.reduceLT, Int.reduceLE]
    exact hK
  rw [if_neg (by omega)] at hK
  try simp (disch := first | omega | (simp only [PL]; omega)) only [PS, P1, P2, P3, P4, P5, P6, P7, P8, PA, PB, PC, Nat.reduceAdd, Nat.reduceSub, Nat.reduceMul, Nat.reduceLeDiff, Nat.reduceEqDiff, Nat.succ_ne_self, reduceCtorEq, Int.reduceToNat, Int.cast_ofNat_Int, Int.reduceEq, Int.reduceNe, Int.reduceLT, Int.reduceLE]
  refine i_cond (fun c => ?_) (fun c => ?_)
  · rw [if_pos (by omega)] at hK
    try simp (disch := first | omega | (simp only [PL]; omega)) only [PS, P1, P2, P3, P4, P5, P6, P7, P8, PA, PB, PC, Nat.reduceAdd, Nat.reduceSub, Nat.reduceMul, Nat.reduceLeDiff, Nat.reduceEqDiff, Nat.succ_ne_self, reduceCtorEq, Int.reduceToNat, Int.cast_ofNat_Int, Int.reduceEq, Int.reduceNe, Int.reduceLT, Int.reduceLE]
    exact hK
  rw [if_neg (by omega)] at hK
  try simp (disch := first | omega | (simp only [PL]; omega)) only [PS, P1, P2, P3, P4, P5, P6, P7, P8, PA, PB, PC, Nat.reduceAdd, Nat.reduceSub, Nat.reduceMul, Nat.reduceLeDiff, Nat.reduceEqDiff, Nat.succ_ne_self, reduceCtorEq, Int.reduceToNat, Int.cast_ofNat_Int, Int.reduceEq, Int.reduceNe, Int.reduceLT, Int.reduceLE]
  refine i_cond (fun c => ?_) (fun c => ?_)
  · rw [if_pos (by omega)] at hK
    try simp (disch := first | omega | (simp only [PL]; omega)) only [PS, P1, P2, P3, P4, P5, P6, P7, P8, PA, PB, PC, Nat.reduceAdd, Nat.reduceSub, Nat.reduceMul, Nat.reduceLeDiff, Nat.reduceEqDiff, Nat.succ_ne_self, reduceCtorEq, Int.reduceToNat, Int.cast_ofNat_Int, Int.reduceEq, Int.reduceNe, Int.reduceLT, Int.reduceLE]
    exact hK
  rw [if_neg (by omega)] at hK
  try simp (disch := first | omega | (simp only [PL]; omega)) only [PS, P1, P2, P3, P4, P5, P6, P7, P8, PA, PB, PC, Nat.reduceAdd, Nat.reduceSub, Nat.reduceMul, Nat.reduceLeDiff, Nat.reduceEqDiff, Nat.succ_ne_self, reduceCtorEq, Int.reduceToNat, Int.cast_ofNat_Int, Int.reduceEq, Int.reduceNe, Int.reduceLT, Int.reduceLE]
  refine i_cond (fun c => ?_) (fun c => ?_)
  · rw [if_pos (by omega)] at hK
    try simp (disch := first | omega | (simp only [PL]; omega)) only [PS, P1, P2, P3, P4, P5, P6, P7, P8, PA, PB, PC, Nat.reduceAdd, Nat.reduceSub, Nat.reduceMul, Nat.reduceLeDiff, Nat.reduceEqDiff, Nat.succ_ne_self, reduceCtorEq, Int.reduceToNat, Int.cast_ofNat_Int, Int.reduceEq, Int.reduceNe, Int.reduceLT, Int.reduceLE]
    exact hK
  rw [if_neg (by omega)] at hK
  try simp (disch := first | omega | (simp only [PL]; omega)) only [PS, P1, P2, P3, P4, P5, P6, P7, P8, PA, PB, PC, Nat.reduceAdd, Nat.reduceSub, Nat.reduceMul, Nat.reduceLeDiff, Nat.reduceEqDiff, Nat.succ_ne_self, reduceCtorEq, Int.reduceToNat, Int.cast_ofNat_Int, Int.reduceEq, Int.reduceNe, Int.reduceLT, Int.reduceLE]
  refine i_cond (fun c => ?_) (fun c => ?_)
  · rw [if_pos (by omega)] at hK
    try simp (disch := first | omega | (simp only [PL]; omega)) only [PS, P1, P2, P3, P4, P5, P6, P7, P8, PA, PB, PC, Nat.reduceAdd, Nat.reduceSub, Nat.reduceMul, Nat.reduceLeDiff, Nat.reduceEqDiff, Nat.succ_ne_self, reduceCtorEq, Int.reduceToNat, Int.cast_ofNat_Int, Int.reduceEq, Int.reduceNe, Int.reduceLT, Int.reduceLE]
    exact hK
  rw [if_neg (by omega)] at hK
  try simp (disch := first | omega | (simp only [PL]; omega)) only [PS, P1, P2, P3, P4, P5, P6, P7, P8, PA, PB, PC, Nat.reduceAdd, Nat.reduceSub, Nat.reduceMul, Nat.reduceLeDiff, Nat.reduceEqDiff, Nat.succ_ne_self, reduceCtorEq, Int.reduceToNat, Int.cast_ofNat_Int, Int.reduceEq, Int.reduceNe, Int.reduceLT, Int.reduceLE]
  exact hK
def S117 : Spec := fun args h K => ∃ n : Nat, args = [.int .i64 n] ∧ n ≤ 18 ∧ K (.int .i64 (10 ^ n : Nat)) h
theorem F117_ok {N : Num} {Γ : Ctx} [GoodC Γ] : Sat S117 (SF N Γ F117) := by
  rintro _ h K ⟨n, rfl, hn, hK⟩
  refine i_fun rfl ?_
  simp only [F117, env0, List.map, List.length, List.replicate, List.cons_append, List.nil_append, Nat.reduceSub, Nat.reduceAdd]
  try simp (disch := first | omega | (simp only [PL]; omega)) only [PS, P1, P2, P3, P4, P5, P6, P7, P8, PA, PB, PC, Nat.reduceAdd, Nat.reduceSub, Nat.reduceMul, Nat.reduceLeDiff, Nat.reduceEqDiff, Nat.succ_ne_self, reduceCtorEq, Int.reduceToNat, Int.cast_ofNat_Int, Int.reduceEq, Int.reduceNe, Int.reduceLT, Int.reduceLE]
  refine i_loop (fun i : Nat => [some (.int .i64 n), some (.int .i64 0), some (.int .i64 (10 ^ i : Nat)), some (.int .i64 n), some (.int .i64 i), none]) (fun i h1 => h1 = h ∧ i ≤ n) (fun i => n - i) 0 (by rw [Nat.pow_zero]; try simp only [Pe, and_true, true_and, and_self]; exact ⟨rfl, rfl⟩) ⟨rfl, by omega⟩ ?_
  rintro i h1 ⟨rfl, hi⟩
  try simp (disch := first | omega | (simp only [PL]; omega)) only [PS, P1, P2, P3, P4, P5, P6, P7, P8, PA, PB, PC, Nat.reduceAdd, Nat.reduceSub, Nat.reduceMul, Nat.reduceLeDiff, Nat.reduceEqDiff, Nat.succ_ne_self, reduceCtorEq, Int.reduceToNat, Int.cast_ofNat_Int, Int.reduceEq, Int.reduceNe, Int.reduceLT, Int.reduceLE]
  refine i_cond (fun c => ?_) (fun c => ?_)
  · have hp : 10 ^ i * 10 ≤ 10 ^ 18 := by rw [← Nat.pow_succ]; exact Nat.pow_le_pow_right (by omega) (by omega)
    have hp2 : IntKind.i64.wrap (((10 ^ i : Nat) : Int) * 10) = ((10 ^ (i + 1) : Nat) : Int) := by
      rw [w64 (by omega) (by omega), Nat.pow_succ]; omega
    try simp (disch := first | omega | (simp only [PL]; omega)) only [PS, P1, P2, P3, P4, P5, P6, P7, P8, PA, PB, PC, Nat.reduceAdd, Nat.reduceSub, Nat.reduceMul, Nat.reduceLeDiff, Nat.reduceEqDiff, Nat.succ_ne_self, reduceCtorEq, Int.reduceToNat, Int.cast_ofNat_Int, Int.reduceEq, Int.reduceNe, Int.reduceLT, Int.reduceLE, hp2]
    exact k_loop (i + 1) (by omega) (by try simp only [Pe, and_true, true_and, and_self]) ⟨rfl, by omega⟩
  · have : i = n := by omega
    subst this
    try simp (disch := first | omega | (simp only [PL]; omega)) only [PS, P1, P2, P3, P4, P5, P6, P7, P8, PA, PB, PC, Nat.reduceAdd, Nat.reduceSub, Nat.reduceMul, Nat.reduceLeDiff, Nat.reduceEqDiff, Nat.succ_ne_self, reduceCtorEq, Int.reduceToNat, Int.cast_ofNat_Int, Int.reduceEq, Int.reduceNe, Int.reduceLT, Int.reduceLE]
    exact hK
def S107 : Spec := fun args h K => ∃ p, args = [.int .i64 p] ∧ ∀ h', Heap.le h h' → K (.tuple #[paV p, .bool (partsOf p).isSome]) h'
theorem F107_ok {N : Num} {Γ : Ctx} [GoodC Γ] : Sat S107 (SF N Γ F107) := by
  rintro _ h K ⟨p, rfl, hK⟩
  refine i_fun rfl ?_
  simp only [F107, env0, List.map, List.length, List.replicate, List.cons_append, List.nil_append, Nat.reduceSub, Nat.reduceAdd]
  try simp (disch := first | omega | (simp only [PL]; omega)) only [PS, P1, P2, P3, P4, P5, P6, P7, P8, PA, PB, PC, Nat.reduceAdd, Nat.reduceSub, Nat.reduceMul, Nat.reduceLeDiff, Nat.reduceEqDiff, Nat.succ_ne_self, reduceCtorEq, Int.reduceToNat, Int.cast_ofNat_Int, Int.reduceEq, Int.reduceNe, Int.reduceLT, Int.reduceLE]
  refine i_newO fun b h1 hle1 hb ho => ?_
  try simp (disch := first | omega | (simp only [PL]; omega)) only [PS, P1, P2, P3, P4, P5, P6, P7, P8, PA, PB, PC, Nat.reduceAdd, Nat.reduceSub, Nat.reduceMul, Nat.reduceLeDiff, Nat.reduceEqDiff, Nat.succ_ne_self, reduceCtorEq, Int.reduceToNat, Int.cast_ofNat_Int, Int.reduceEq, Int.reduceNe, Int.reduceLT, Int.reduceLE]
  have ho1 := ho.le (fr_le h h1)
  refine i_st ho1 0 24 rfl rfl (by omega) (Nat.le_refl 24) fun o hob _ => ?_
  have hob2 : objAt (h1.set b o) ⟨b, 0, none⟩ [.int .i64 20, .int .i64 6, .int .i64 6, .int .i64 1, .int .i64 17, .int .i64 5, .int .i64 9, .int .i64 2, .int .i64 14, .int .i64 4, .int .i64 12, .int .i64 3, .int .i64 10, .int .i64 3, .int .i64 16, .int .i64 4, .int .i64 7, .int .i64 2, .int .i64 19, .int .i64 5, .int .i64 4, .int .i64 1, .int .i64 22, .int .i64 6] := hob h1 rfl
  have hle2 : Heap.le h (h1.set b o) := by
    intro x ob hx
    have : x ≠ b := by intro e; subst e; rw [hb] at hx; cases hx
    rw [Heap.set_ne this]; exact hle1 x ob hx
  generalize h1.set b o = h2 at *
  have hrow := hob2.row
  have hK2 := hK h2 hle2
  clear hK
  try simp (disch := first | omega | (simp only [PL]; omega)) only [PS, P1, P2, P3, P4, P5, P6, P7, P8, PA, PB, PC, Nat.reduceAdd, Nat.reduceSub, Nat.reduceMul, Nat.reduceLeDiff, Nat.reduceEqDiff, Nat.succ_ne_self, reduceCtorEq, Int.reduceToNat, Int.cast_ofNat_Int, Int.reduceEq, Int.reduceNe, Int.reduceLT, Int.reduceLE]
  refine i_cond (fun c => ?_) (fun c => ?_)
  · have hn := partsOf_none.2 (show p < 0 ∨ 6 ≤ p by omega)
    unfold paV at hK2
    rw [hn] at hK2
    try simp (disch := first | omega | (simp only [PL]; omega)) only [PS, P1, P2, P3, P4, P5, P6, P7, P8, PA, PB, PC, Nat.reduceAdd, Nat.reduceSub, Nat.reduceMul, Nat.reduceLeDiff, Nat.reduceEqDiff, Nat.succ_ne_self, reduceCtorEq, Int.reduceToNat, Int.cast_ofNat_Int, Int.reduceEq, Int.reduceNe, Int.reduceLT, Int.reduceLE]
    exact hK2
  · have hp : p = 0 ∨ p = 1 ∨ p = 2 ∨ p = 3 ∨ p = 4 ∨ p = 5 := by omega
    have r0 := hrow.row (i := 0) (n := 4) (by simp)
    have r1 := hrow.row (i := 4) (n := 4) (by simp)
    have r2 := hrow.row (i := 8) (n := 4) (by simp)
    have r3 := hrow.row (i := 12) (n := 4) (by simp)
    have r4 := hrow.row (i := 16) (n := 4) (by simp)
    have r5 := hrow.row (i := 20) (n := 4) (by simp)
    have haa : ∀ (k : IntKind) (n : Nat), n < 6 → o2V h2 (.aadr 6 4) (.v (.pointer (some ⟨b, 0, none⟩))) (.v (.int k (n : Int))) = some (.v (.pointer (some ((⟨b, 0, none⟩ : Addr).add (n * 4))))) := by
      intro k n hn
      have hb : inBounds (n : Int) 6 = true := by simp [inBounds]; omega
      simp only [o2V, hb, if_true, Int.toNat_natCast]
    rcases hp with rfl | rfl | rfl | rfl | rfl | rfl
    · have := haa .i64 0 (by omega)
      try simp (disch := first | omega | (simp only [PL]; omega)) only [PS, P1, P2, P3, P4, P5, P6, P7, P8, PA, PB, PC, Nat.reduceAdd, Nat.reduceSub, Nat.reduceMul, Nat.reduceLeDiff, Nat.reduceEqDiff, Nat.succ_ne_self, reduceCtorEq, Int.reduceToNat, Int.cast_ofNat_Int, Int.reduceEq, Int.reduceNe, Int.reduceLT, Int.reduceLE, this, r0]
      exact hK2
    · have := haa .i64 1 (by omega)
      try simp (disch := first | omega | (simp only [PL]; omega)) only [PS, P1, P2, P3, P4, P5, P6, P7, P8, PA, PB, PC, Nat.reduceAdd, Nat.reduceSub, Nat.reduceMul, Nat.reduceLeDiff, Nat.reduceEqDiff, Nat.succ_ne_self, reduceCtorEq, Int.reduceToNat, Int.cast_ofNat_Int, Int.reduceEq, Int.reduceNe, Int.reduceLT, Int.reduceLE, this, r1]
      exact hK2
    · have := haa .i64 2 (by omega)
      try simp (disch := first | omega | (simp only [PL]; omega)) only [PS, P1, P2, P3, P4, P5, P6, P7, P8, PA, PB, PC, Nat.reduceAdd, Nat.reduceSub, Nat.reduceMul, Nat.reduceLeDiff, Nat.reduceEqDiff, Nat.succ_ne_self, reduceCtorEq, Int.reduceToNat, Int.cast_ofNat_Int, Int.reduceEq, Int.reduceNe, Int.reduceLT, Int.reduceLE, this, r2]
      exact hK2
    · have := haa .i64 3 (by omega)
      try simp (disch := first | omega | (simp only [PL]; omega)) only [PS, P1, P2, P3, P4, P5, P6, P7, P8, PA, PB, PC, Nat.reduceAdd, Nat.reduceSub, Nat.reduceMul, Nat.reduceLeDiff, Nat.reduceEqDiff, Nat.succ_ne_self, reduceCtorEq, Int.reduceToNat, Int.cast_ofNat_Int, Int.reduceEq, Int.reduceNe, Int.reduceLT, Int.reduceLE, this, r3]
      exact hK2
    · have := haa .i64 4 (by omega)
      try simp (disch := first | omega | (simp only [PL]; omega)) only [PS, P1, P2, P3, P4, P5, P6, P7, P8, PA, PB, PC, Nat.reduceAdd, Nat.reduceSub, Nat.reduceMul, Nat.reduceLeDiff, Nat.reduceEqDiff, Nat.succ_ne_self, reduceCtorEq, Int.reduceToNat, Int.cast_ofNat_Int, Int.reduceEq, Int.reduceNe, Int.reduceLT, Int.reduceLE, this, r4]
      exact hK2
    · have := haa .i64 5 (by omega)
      try simp (disch := first | omega | (simp only [PL]; omega)) only [PS, P1, P2, P3, P4, P5, P6, P7, P8, PA, PB, PC, Nat.reduceAdd, Nat.reduceSub, Nat.reduceMul, Nat.reduceLeDiff, Nat.reduceEqDiff, Nat.succ_ne_self, reduceCtorEq, Int.reduceToNat, Int.cast_ofNat_Int, Int.reduceEq, Int.reduceNe, Int.reduceLT, Int.reduceLE, this, r5]
      exact hK2
end Go.Cw
namespace Go.Cw
open Go
def aggT (t : Tg) : Value := .agg #[.int .i64 t.kind, .int .i64 t.filter, .int .i64 t.part, .int .i64 t.company, .int .i64 t.ref, .int .i64 t.serial]
def faultT (t : Tg) : Nat := if t.bad then 1 else 0
theorem Tg.bad_none {t : Tg} (h : partsOf t.part = none) : t.bad := by unfold Tg.bad; rw [h]; trivial
theorem Tg.bad_some {t : Tg} {a : Pa} (h : partsOf t.part = some a) : t.bad ↔ (t.kind < 1 ∨ 3 < t.kind ∨ t.filter < 0 ∨ 7 < t.filter ∨ t.serial < 0 ∨ 16777215 < t.serial ∨ t.company < 0 ∨ (10 ^ a.cd : Nat) ≤ t.company ∨ t.ref < 0 ∨ (10 ^ a.rd : Nat) ≤ t.ref) := by unfold Tg.bad; rw [h]
theorem fault_bad {t : Tg} (h : t.bad) : faultT t = 1 := if_pos h
theorem fault_ok {t : Tg} (h : ¬ t.bad) : faultT t = 0 := if_neg h
def S128 : Spec := fun args h K => ∃ t : Tg, args = [aggT t] ∧ t.company ≤ 9223372036854775807 ∧ t.ref ≤ 9223372036854775807 ∧ ∀ h', Heap.le h h' → K (.int .i64 (faultT t : Nat)) h'
theorem F128_ok {N : Num} {Γ : Ctx} [GoodC Γ] (H79 : Sat S79 (Γ 79)) (H85 : Sat S85 (Γ 85)) : Sat S128 (SF N Γ F128) := by
  rintro _ h K ⟨t, rfl, hc, hr, hK⟩
  refine i_fun rfl ?_
  simp only [F128, env0, List.map, List.length, List.replicate, List.cons_append, List.nil_append, Nat.reduceSub, Nat.reduceAdd, aggT]
  try simp (disch := first | omega | (simp only [PL]; omega)) only [PS, P1, P2, P3, P4, P5, P6, P7, P8, PA, PB, PC, Nat.reduceAdd, Nat.reduceSub, Nat.reduceMul, Nat.reduceLeDiff, Nat.reduceEqDiff, Nat.succ_ne_self, reduceCtorEq, Int.reduceToNat, Int.cast_ofNat_Int, Int.reduceEq, Int.reduceNe, Int.reduceLT, Int.reduceLE]
  refine i_call H79 ⟨t.part, rfl, ?_⟩
  cases hp : partsOf t.part with
  | none =>
    rw [fault_bad (Tg.bad_none hp)] at hK
    simp only [paV, hp, Option.elim]
    try simp (disch := first | omega | (simp only [PL]; omega)) only [PS, P1, P2, P3, P4, P5, P6, P7, P8, PA, PB, PC, Nat.reduceAdd, Nat.reduceSub, Nat.reduceMul, Nat.reduceLeDiff, Nat.reduceEqDiff, Nat.succ_ne_self, reduceCtorEq, Int.reduceToNat, Int.cast_ofNat_Int, Int.reduceEq, Int.reduceNe, Int.reduceLT, Int.reduceLE]
    refine i_newO fun b h1 hle1 hb ho => ?_
    try simp (disch := first | omega | (simp only [PL]; omega)) only [PS, P1, P2, P3, P4, P5, P6, P7, P8, PA, PB, PC, Nat.reduceAdd, Nat.reduceSub, Nat.reduceMul, Nat.reduceLeDiff, Nat.reduceEqDiff, Nat.succ_ne_self, reduceCtorEq, Int.reduceToNat, Int.cast_ofNat_Int, Int.reduceEq, Int.reduceNe, Int.reduceLT, Int.reduceLE]
    refine i_st (ho.le (fr_le h h1)) 0 4 rfl rfl (by omega) (Nat.le_refl 4) fun o hob _ => ?_
    have hle2 : Heap.le h (h1.set b o) := by
      intro x ob hx
      have : x ≠ b := by intro e; subst e; rw [hb] at hx; cases hx
      rw [Heap.set_ne this]; exact hle1 x ob hx
    try simp (disch := first | omega | (simp only [PL]; omega)) only [PS, P1, P2, P3, P4, P5, P6, P7, P8, PA, PB, PC, Nat.reduceAdd, Nat.reduceSub, Nat.reduceMul, Nat.reduceLeDiff, Nat.reduceEqDiff, Nat.succ_ne_self, reduceCtorEq, Int.reduceToNat, Int.cast_ofNat_Int, Int.reduceEq, Int.reduceNe, Int.reduceLT, Int.reduceLE]
    exact hK _ hle2
  | some a =>
    have hbad := Tg.bad_some hp
    simp only [paV, hp, Option.elim, Pa.enc]
    try simp (disch := first | omega | (simp only [PL]; omega)) only [PS, P1, P2, P3, P4, P5, P6, P7, P8, PA, PB, PC, Nat.reduceAdd, Nat.reduceSub, Nat.reduceMul, Nat.reduceLeDiff, Nat.reduceEqDiff, Nat.succ_ne_self, reduceCtorEq, Int.reduceToNat, Int.cast_ofNat_Int, Int.reduceEq, Int.reduceNe, Int.reduceLT, Int.reduceLE]
    refine i_newO fun b h1 hle1 hb ho => ?_
    try simp (disch := first | omega | (simp only [PL]; omega)) only [PS, P1, P2, P3, P4, P5, P6, P7, P8, PA, PB, PC, Nat.reduceAdd, Nat.reduceSub, Nat.reduceMul, Nat.reduceLeDiff, Nat.reduceEqDiff, Nat.succ_ne_self, reduceCtorEq, Int.reduceToNat, Int.cast_ofNat_Int, Int.reduceEq, Int.reduceNe, Int.reduceLT, Int.reduceLE]
    refine i_st (ho.le (fr_le h h1)) 0 4 rfl rfl (by omega) (Nat.le_refl 4) fun o hob _ => ?_
    have hob2 : objAt (h1.set b o) ⟨b, 0, none⟩ [.int .i64 a.cb, .int .i64 a.cd, .int .i64 a.rb, .int .i64 a.rd] := hob h1 rfl
    have hle2 : Heap.le h (h1.set b o) := by
      intro x ob hx
      have : x ≠ b := by intro e; subst e; rw [hb] at hx; cases hx
      rw [Heap.set_ne this]; exact hle1 x ob hx
    generalize h1.set b o = h2 at *
    have B1 : h2.cell ((⟨b, 0, none⟩ : Addr).add 1) = some (.int .i64 a.cd) := hob2.rules.1 1 (by simp)
    have B3 := fun h3 (hl : Heap.le h2 h3) => ((hob2.le hl).rules.1 3 (by simp) : h3.cell ((⟨b, 0, none⟩ : Addr).add 3) = some (.int .i64 a.rd))
    have hpa := partsOf_some hp
    try simp (disch := first | omega | (simp only [PL]; omega)) only [PS, P1, P2, P3, P4, P5, P6, P7, P8, PA, PB, PC, Nat.reduceAdd, Nat.reduceSub, Nat.reduceMul, Nat.reduceLeDiff, Nat.reduceEqDiff, Nat.succ_ne_self, reduceCtorEq, Int.reduceToNat, Int.cast_ofNat_Int, Int.reduceEq, Int.reduceNe, Int.reduceLT, Int.reduceLE]
    refine i_cond (fun c1 => ?_) (fun c1 => ?_)
    · have := hK h2 hle2
      rw [fault_bad (hbad.2 (by omega))] at this
      try simp (disch := first | omega | (simp only [PL]; omega)) only [PS, P1, P2, P3, P4, P5, P6, P7, P8, PA, PB, PC, Nat.reduceAdd, Nat.reduceSub, Nat.reduceMul, Nat.reduceLeDiff, Nat.reduceEqDiff, Nat.succ_ne_self, reduceCtorEq, Int.reduceToNat, Int.cast_ofNat_Int, Int.reduceEq, Int.reduceNe, Int.reduceLT, Int.reduceLE]
      exact this
    have hbad2 : t.bad ↔ (t.company < 0 ∨ (10 ^ a.cd : Nat) ≤ t.company ∨ t.ref < 0 ∨ (10 ^ a.rd : Nat) ≤ t.ref) := by rw [hbad]; omega
    clear hbad
    try simp (disch := first | omega | (simp only [PL]; omega)) only [PS, P1, P2, P3, P4, P5, P6, P7, P8, PA, PB, PC, Nat.reduceAdd, Nat.reduceSub, Nat.reduceMul, Nat.reduceLeDiff, Nat.reduceEqDiff, Nat.succ_ne_self, reduceCtorEq, Int.reduceToNat, Int.cast_ofNat_Int, Int.reduceEq, Int.reduceNe, Int.reduceLT, Int.reduceLE, B1]
    by_cases hc0 : t.company < 0
    · have hc1 : (t.company < 0) = True := by simpa using hc0
      try simp (disch := first | omega | (simp only [PL]; omega)) only [PS, P1, P2, P3, P4, P5, P6, P7, P8, PA, PB, PC, Nat.reduceAdd, Nat.reduceSub, Nat.reduceMul, Nat.reduceLeDiff, Nat.reduceEqDiff, Nat.succ_ne_self, reduceCtorEq, Int.reduceToNat, Int.cast_ofNat_Int, Int.reduceEq, Int.reduceNe, Int.reduceLT, Int.reduceLE, hc1]
      refine i_le (le_one (Heap.le.refl _)) ?_
      try simp (disch := first | omega | (simp only [PL]; omega)) only [PS, P1, P2, P3, P4, P5, P6, P7, P8, PA, PB, PC, Nat.reduceAdd, Nat.reduceSub, Nat.reduceMul, Nat.reduceLeDiff, Nat.reduceEqDiff, Nat.succ_ne_self, reduceCtorEq, Int.reduceToNat, Int.cast_ofNat_Int, Int.reduceEq, Int.reduceNe, Int.reduceLT, Int.reduceLE]
      refine i_le (le_two (Heap.le.refl _) (Heap.le.refl _)) ?_
      have := hK h2 hle2
      rw [fault_bad (hbad2.2 (by omega))] at this
      try simp (disch := first | omega | (simp only [PL]; omega)) only [PS, P1, P2, P3, P4, P5, P6, P7, P8, PA, PB, PC, Nat.reduceAdd, Nat.reduceSub, Nat.reduceMul, Nat.reduceLeDiff, Nat.reduceEqDiff, Nat.succ_ne_self, reduceCtorEq, Int.reduceToNat, Int.cast_ofNat_Int, Int.reduceEq, Int.reduceNe, Int.reduceLT, Int.reduceLE]
      exact this
    · have hc1 : (t.company < 0) = False := by simpa using hc0
      obtain ⟨nc, hnc⟩ : ∃ n : Nat, t.company = n := ⟨t.company.toNat, by omega⟩
      rw [hnc] at hc hc1 hbad2 ⊢
      have hdc := dec_le_iff (n := nc) (show 0 < a.cd by omega)
      have haa : ∀ h (k : IntKind), o2V h (.aadr 4 1) (.v (.pointer (some ⟨b, 0, none⟩))) (.v (.int k 1)) = some (.v (.pointer (some ((⟨b, 0, none⟩ : Addr).add 1)))) := fun h k => rfl
      have haa3 : ∀ h (k : IntKind), o2V h (.aadr 4 1) (.v (.pointer (some ⟨b, 0, none⟩))) (.v (.int k 3)) = some (.v (.pointer (some ((⟨b, 0, none⟩ : Addr).add 3)))) := fun h k => rfl
      try simp (disch := first | omega | (simp only [PL]; omega)) only [PS, P1, P2, P3, P4, P5, P6, P7, P8, PA, PB, PC, Nat.reduceAdd, Nat.reduceSub, Nat.reduceMul, Nat.reduceLeDiff, Nat.reduceEqDiff, Nat.succ_ne_self, reduceCtorEq, Int.reduceToNat, Int.cast_ofNat_Int, Int.reduceEq, Int.reduceNe, Int.reduceLT, Int.reduceLE, hc1, haa, B1]
      refine i_call H85 ⟨nc, rfl, by omega, fun h3 hle3 => ?_⟩
      have B3' := B3 h3 hle3
      refine i_le (le_one hle3) ?_
      by_cases hbad3 : 10 ^ a.cd ≤ nc ∨ t.ref < 0
      · have hcond : (((a.cd : Int) < ((dec nc).length : Int)) ∨ t.ref < 0) = True := by
          rw [eq_iff_iff]; simp only [iff_true]
          rcases hbad3 with h | h
          · exact .inl (by have := mt hdc.1 (by omega); omega)
          · exact .inr h
        try simp (disch := first | omega | (simp only [PL]; omega)) only [PS, P1, P2, P3, P4, P5, P6, P7, P8, PA, PB, PC, Nat.reduceAdd, Nat.reduceSub, Nat.reduceMul, Nat.reduceLeDiff, Nat.reduceEqDiff, Nat.succ_ne_self, reduceCtorEq, Int.reduceToNat, Int.cast_ofNat_Int, Int.reduceEq, Int.reduceNe, Int.reduceLT, Int.reduceLE, hcond]
        refine i_le (le_two (Heap.le.refl _) hle3) ?_
        have := hK h3 (hle2.trans hle3)
        rw [fault_bad (hbad2.2 (by omega))] at this
        try simp (disch := first | omega | (simp only [PL]; omega)) only [PS, P1, P2, P3, P4, P5, P6, P7, P8, PA, PB, PC, Nat.reduceAdd, Nat.reduceSub, Nat.reduceMul, Nat.reduceLeDiff, Nat.reduceEqDiff, Nat.succ_ne_self, reduceCtorEq, Int.reduceToNat, Int.cast_ofNat_Int, Int.reduceEq, Int.reduceNe, Int.reduceLT, Int.reduceLE]
        exact this
      · have hcond : (((a.cd : Int) < ((dec nc).length : Int)) ∨ t.ref < 0) = False := by
          rw [eq_iff_iff]; simp only [iff_false]
          rintro (h | h)
          · exact absurd (hdc.2 (by omega)) (by omega)
          · omega
        obtain ⟨nr, hnr⟩ : ∃ n : Nat, t.ref = n := ⟨t.ref.toNat, by omega⟩
        rw [hnr] at hr hcond hbad2 ⊢
        have hdr := dec_le_iff (n := nr) (show 0 < a.rd by omega)
        try simp (disch := first | omega | (simp only [PL]; omega)) only [PS, P1, P2, P3, P4, P5, P6, P7, P8, PA, PB, PC, Nat.reduceAdd, Nat.reduceSub, Nat.reduceMul, Nat.reduceLeDiff, Nat.reduceEqDiff, Nat.succ_ne_self, reduceCtorEq, Int.reduceToNat, Int.cast_ofNat_Int, Int.reduceEq, Int.reduceNe, Int.reduceLT, Int.reduceLE, hcond, haa3, B3']
        refine i_call H85 ⟨nr, rfl, by omega, fun h4 hle4 => ?_⟩
        refine i_le (le_two hle4 (hle3.trans hle4)) ?_
        try simp (disch := first | omega | (simp only [PL]; omega)) only [PS, P1, P2, P3, P4, P5, P6, P7, P8, PA, PB, PC, Nat.reduceAdd, Nat.reduceSub, Nat.reduceMul, Nat.reduceLeDiff, Nat.reduceEqDiff, Nat.succ_ne_self, reduceCtorEq, Int.reduceToNat, Int.cast_ofNat_Int, Int.reduceEq, Int.reduceNe, Int.reduceLT, Int.reduceLE]
        refine i_cond (fun c2 => ?_) (fun c2 => ?_)
        · have := hK h4 (hle2.trans (hle3.trans hle4))
          rw [fault_bad (hbad2.2 (by have := mt hdr.2 (by omega); omega))] at this
          try simp (disch := first | omega | (simp only [PL]; omega)) only [PS, P1, P2, P3, P4, P5, P6, P7, P8, PA, PB, PC, Nat.reduceAdd, Nat.reduceSub, Nat.reduceMul, Nat.reduceLeDiff, Nat.reduceEqDiff, Nat.succ_ne_self, reduceCtorEq, Int.reduceToNat, Int.cast_ofNat_Int, Int.reduceEq, Int.reduceNe, Int.reduceLT, Int.reduceLE]
          exact this
        · have := hK h4 (hle2.trans (hle3.trans hle4))
          rw [fault_ok (fun h => by have := hbad2.1 h; have := hdr.1 (by omega); omega)] at this
          try simp (disch := first | omega | (simp only [PL]; omega)) only [PS, P1, P2, P3, P4, P5, P6, P7, P8, PA, PB, PC, Nat.reduceAdd, Nat.reduceSub, Nat.reduceMul, Nat.reduceLeDiff, Nat.reduceEqDiff, Nat.succ_ne_self, reduceCtorEq, Int.reduceToNat, Int.cast_ofNat_Int, Int.reduceEq, Int.reduceNe, Int.reduceLT, Int.reduceLE]
          exact this
end Go.Cw
