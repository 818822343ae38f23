/- Part 3 of the proof of TopAlerts: a small language for the program's functions, its soundness, and what the functions do. No conditions beyond the theorems' own. -/
import Derived.Test.YthhepmakjimhlabGreatCw2
import Derived.Sort.AssemblyPlain
import Derived.Sort.Walk13a
import Derived.Sort.Walk7
import Derived.Sort.WalkA6
import Derived.Sort.WalkC
set_option linter.unusedSimpArgs false
set_option linter.unusedVariables false
set_option maxRecDepth 20000
namespace Go.Cw
open Go
def wl (window need : Nat) (EL : List (List Si)) (tag : List UInt8) : List Int := (List.range EL.length).map fun e => atE window need (EL.take (e + 1)) tag
theorem wl_snoc (window need : Nat) (EL : List (List Si)) (l : List Si) (tag : List UInt8) : wl window need EL tag ++ [atE window need (EL ++ [l]) tag] = wl window need (EL ++ [l]) tag := by
  unfold wl
  rw [List.length_append, List.length_singleton, List.range_succ, List.map_append]
  congr 1
  · refine List.map_congr_left fun e he => ?_
    rw [List.mem_range] at he
    rw [List.take_append_of_le_length oM]
  · simp [List.take_of_length_le]
theorem bestTo_none {need : Nat} {cnt : Int → Nat} {st : Int → Int} (h : ∀ p, cnt p < need) (n : Nat) : bestTo need cnt st n = -1 := by
  induction n with
  | zero => rfl
  | succ n ih => simp only [bestTo]; rw [if_pos (h _)]; exact ih
theorem wl_none {window need : Nat} {EL : List (List Si)} {tag : List UInt8} (hn : 1 ≤ need) (h : ¬ toldE EL tag) : wl window need EL tag = List.replicate EL.length (-1) := by
  refine List.eq_replicate_iff.2 ⟨by simp [wl], fun x hx => ?_⟩
  obtain ⟨e, _, rfl⟩ := List.mem_map.1 hx
  refine bestTo_none (fun p => ?_) 8
  have : (((EL.take (e + 1)).drop ((EL.take (e + 1)).length - window)).filter fun l => decide (seen l tag p)) = [] := by
    rw [List.filter_eq_nil_iff]
    rintro l hl hd
    obtain ⟨s, hs, h1, _⟩ := of_decide_eq_true hd
    exact h ⟨l, List.mem_of_mem_take (List.mem_of_mem_drop hl), s, hs, h1⟩
  unfold cntE; rw [this]; exact hn
def TrO (g : Heap) (b window need : Nat) (EL : List (List Si)) : Prop := ∃ W ev mw wkv bs ck gi ems, TrG g b window need EL W none ev mw wkv bs ck gi ems ∧ ∀ tag, W tag = if toldE EL tag then some (wl window need EL tag) else none
theorem nodup_idx {α : Type} {l : List α} (hl : l.Nodup) {i j : Nat} {x : α} (h1 : l[i]? = some x) (h2 : l[j]? = some x) : i = j := by
  obtain ⟨a1, a2⟩ := List.getElem?_eq_some_iff.1 h1
  exact (List.getElem?_inj a1 hl).1 (h1.trans h2.symm)
def S29 (N : Num) : Spec := fun args h K => ∃ b v l g window need EL, args = [.pointer (some ⟨b, 0, none⟩), v] ∧ Sl Si.enc h v l ∧ TrO g b window need EL ∧ Heap.le g h ∧ TrOk window need EL ∧ EL.length < 100000 ∧ l.length ≤ 1000000 ∧
  ((∃ s ∈ l, s.bad) → ∀ h', Heap.le h h' → K (errV N 1) h') ∧ ((∀ s ∈ l, ¬ s.bad) → ∀ h' g', Step g h g' h' → TrO g' b window need (EL ++ [l]) → K .nilIface h')
def mapO (o : Option Nat) : Value := .map o
theorem eqv_mapo (h : Heap) (o : Option Nat) : o2V h (.eqv .map false) (.v (mapO o)) (.v (.map none)) = some (.v (.bool (decide (o = none)))) := by
  cases o <;> rfl
theorem MapB.lkpm {h : Heap} {m : Nat} {kv : List (List UInt8 × Nat)} {bs : List Nat} {ck : Nat} (hm : MapB encKS mapV h m kv bs ck) (k : List UInt8) : o2V h (.lkp .str (.map none)) (.v (.map (some m))) (.v (.string (str k))) = some (.v (mapO (look kv k))) := by
  have := (hm.rules .str).1 (.map none) k
  rw [show (Value.string (str k)) = encKS k from rfl, this]
  cases look kv k <;> rfl
theorem MapB.lkpi {h : Heap} {m : Nat} {kv : List (Int × Int)} {bs : List Nat} {ck : Nat} (hm : MapB encKI encKI h m kv bs ck) (k : Int) : o2V h (.lkp .int (.int .i64 0)) (.v (.map (some m))) (.v (.int .i64 k)) = some (.v (.int .i64 ((look kv k).getD 0))) := by
  have := (hm.rules .int).1 (.int .i64 0) k
  rw [show (Value.int .i64 k) = encKI k from rfl, this]
  cases look kv k <;> rfl
theorem MapB.lkps {h : Heap} {m : Nat} {kv : List (List UInt8 × Value)} {bs : List Nat} {ck : Nat} (hm : MapB encKS id h m kv bs ck) (k : List UInt8) : o2V h (.lkp .str (.slice none 0 0)) (.v (.map (some m))) (.v (.string (str k))) = some (.v ((look kv k).getD (.slice none 0 0))) := by
  have := (hm.rules .str).1 (.slice none 0 0) k
  rw [show (Value.string (str k)) = encKS k from rfl, this]
  cases look kv k <;> rfl
theorem eqv_slB {h : Heap} {v : Value} {l : List Int} {g : Heap} (hs : SlB encI 1 g v l) {x : Nat} (hx : blkOf v = some x) : o2V h (.eqv .slice false) (.v v) (.v (.slice none 0 0)) = some (.v (.bool false)) := by
  obtain ⟨a, cap, rfl, _⟩ := hs
  cases a with
  | none => cases hx
  | some a => rfl
theorem eqv_sl0 {h : Heap} : o2V h (.eqv .slice false) (.v (.slice none 0 0)) (.v (.slice none 0 0)) = some (.v (.bool true)) := rfl
theorem addS_eq (E : Ep) (s : Si) : addS E s = upd (upd E s.tag ((look E s.tag).getD [])) s.tag (upd ((look E s.tag).getD []) s.place ((look ((look E s.tag).getD []) s.place).getD 0 + s.strength)) := by rw [upd_upd]; rfl
theorem F29_ok {N : Num} {Γ : Ctx} [GoodC Γ] (H60 : Sat S60 (Γ 60)) : Sat (S29 N) (SF N Γ F29) := by
  rintro _ h K ⟨b, v, l, g, window, need, EL, rfl, hs, hT, hg, hok, hlen, hll, hK1, hK2⟩
  refine i_fun rfl ?_
  simp only [F29, Ze, Nat.reduceSub, Nat.reduceAdd]
  refine sw0 ?_
  refine i_mnew (ek := encKS) (ev := mapV) fun m h1 hm0 hle1 hmE => ?_
  have R1 := (hs.le hle1).rules 4 Si.enc_len default
  refine sw1 @R1 ?_
  refine i_meet_blk (fun env h2 => Heap.le h h2 ∧ EpW (fr h h2) m (tellE l) ∧ (∀ s ∈ l, ¬ s.bad) ∧ env = [some (.pointer (some ⟨b, 0, none⟩)), none, none, some (.map (some m)), none, none, none, none, none, none, none, none, none, none, none, none, none, none, none, none, none, none, none, none, none, none, none, none, none, none, none, none, none, none, none, none, none, none, none, none, none, none, none, none, none]) ?_ ?_
  rotate_left
  · refine i_loop (fun i : Nat => [some (.pointer (some ⟨b, 0, none⟩)), none, none, some (.map (some m)), none, none, none, none, none, some v, some (.int .i64 l.length), some (.int .i64 i), none, none, none, none, none, none, none, none, none, none, none, none, none, none, none, none, none, none, none, none, none, none, none, none, none, none, none, none, none, none, none, none, none]) (fun i h2 => i ≤ l.length ∧ Heap.le h h2 ∧ EpW (fr h h2) m (tellE (l.take i)) ∧ ∀ s ∈ l.take i, ¬ s.bad) (fun i => l.length - i) 0 (by try simp only [Pf]; rfl)
      ⟨oM, hle1, ⟨[], [], 0, hmE, by simp [look_nil, tellE], by simp [look_nil], by simp [look_nil]⟩, by simp⟩ ?_
    rintro i h2 ⟨hi, hle2, hE, hgood⟩
    have R2 := (hs.le hle2).rules 4 Si.enc_len default
    refine sw0 ?_
    refine i_cond (fun c1 => ?_) (fun c1 => ?_)
    rotate_left
    · refine sw0 ?_
      have : i = l.length := oM
      subst this
      rw [List.take_length] at hE hgood
      exact k_meet _ sE ⟨hle2, hE, hgood, rfl⟩
    have hi2 : i < l.length := oM
    have htk := take_succ_d default hi2 (l := l)
    refine sw2 @R2 @Si.enc.eq_1 ?_
    refine i_cond (fun c2 => ?_) (fun c2 => ?_)
    · refine sw0 ?_
      exact hK1 ⟨_, getD_mem default hi2, by simp only [Si.bad]; omega⟩ h2 hle2
    have hsg : ¬ (l.getD i default).bad := by simp only [Si.bad]; omega
    have hgood' : ∀ s ∈ l.take (i + 1), ¬ s.bad := by
      intro s hs; rw [htk, List.mem_append, List.mem_singleton] at hs
      rcases hs with hs | rfl
      · exact hgood s hs
      · exact hsg
    have hsp := tellE_spec (l.take i)
    have hsum := fun p => sumS_bound hgood (l.getD i default).tag p
    have hti : (l.take i).length ≤ 1000000 := by rw [List.length_take]; omega
    have hE1 : tellE (l.take (i + 1)) = upd (upd (tellE (l.take i)) (l.getD i default).tag ((look (tellE (l.take i)) (l.getD i default).tag).getD [])) (l.getD i default).tag (upd ((look (tellE (l.take i)) (l.getD i default).tag).getD []) (l.getD i default).place ((look ((look (tellE (l.take i)) (l.getD i default).tag).getD []) (l.getD i default).place).getD 0 + (l.getD i default).strength)) := by
      rw [htk, tellE_snoc, addS_eq]
    generalize hx : l.getD i default = x at *
    generalize hEg : tellE (l.take i) = E at *
    obtain ⟨kv, kbs, kck, e1, e2, e3, e4⟩ := hE
    have Rk1 := (e1.le (fr_le h h2)).lkpm x.tag
    refine sw2 @Rk1 @eqv_mapo ?_
    refine i_meet_cond (fun env h3 => Heap.le h h3 ∧ EpW (fr h h3) m (upd E x.tag ((look E x.tag).getD [])) ∧ env = [some (.pointer (some ⟨b, 0, none⟩)), none, none, some (.map (some m)), some (.agg x.enc.toArray), none, none, none, none, some v, some (.int .i64 l.length), some (.int .i64 i), none, none, none, none, none, none, none, none, none, none, none, none, none, none, none, none, none, none, none, none, none, none, none, none, none, none, none, none, none, none, none, none, none]) ?_ ?_
    · rintro env h3 ⟨hle3, hE3, rfl⟩
      obtain ⟨kv3, kbs3, kck3, f1, f2, f3, f4⟩ := hE3
      have hlk : ∃ bb, look kv3 x.tag = some bb := by
        cases hh : look kv3 x.tag with
        | some bb => exact ⟨bb, rfl⟩
        | none => have := (f2 x.tag).1 hh; rw [look_upd, if_pos rfl] at this; cases this
      obtain ⟨bb, hbb⟩ := hlk
      obtain ⟨hbm, pl, pbs, pck, p1, p2⟩ := f3 x.tag bb hbb
      rw [look_upd, if_pos rfl] at p1
      have hpl : pl = (look E x.tag).getD [] := by cases p1; rfl
      have Rk3 := (f1.le (fr_le h h3)).lkpm x.tag
      rw [hbb] at Rk3
      simp only [mapO] at Rk3
      have Rp3 := (p2.le (fr_le h h3)).lkpi x.place
      have hbd : 0 ≤ (look pl x.place).getD 0 ∧ (look pl x.place).getD 0 ≤ 255000000 := by
        rw [hpl]
        cases hh : look E x.tag with
        | none => simp [look_nil]
        | some pl' =>
          simp only [Option.getD_some]
          have := (hsp.2.2 x.tag pl' hh).2 x.place
          rw [this]
          have := hsum x.place
          split <;> simp <;> omega
      have hxs : 0 ≤ x.strength ∧ x.strength ≤ 255 := by simp only [Si.bad] at hsg; omega
      have hw : IntKind.i64.wrap ((look pl x.place).getD 0 + x.strength) = (look pl x.place).getD 0 + x.strength := w64 oM oM
      refine sw4 @Rk3 @Rp3 @hw @Si.enc.eq_1 ?_
      have hbb0 : h bb = none := by
        cases hh : h bb with
        | none => rfl
        | some o => exact absurd (by simp [fr, hh]) p2.mem
      refine i_mupd (kb := .int) (ek := encKI) (ev := encKI) (p2.le (fr_le h h3)) (Heap.le.refl h3) x.place ((look pl x.place).getD 0 + x.strength) fun o bs' ck' q1 q2 _ => ?_
      refine sw0 ?_
      refine k_loop (i + 1) oM sE ⟨oM, le_set_new hle3 hbb0, ?_, hgood'⟩
      rw [fr_set_new hbb0, hE1, ← hpl]
      rw [← hpl] at f2 f3
      have q1' : MapB encKI encKI ((fr h h3).set bb o) bb (upd pl x.place ((look pl x.place).getD 0 + x.strength)) bs' ck' := by
        obtain ⟨es, a1, a2⟩ := q1
        rw [Heap.set_eq] at a1
        exact ⟨es, by rw [Heap.set_eq]; exact a1, a2⟩
      exact EpW.put f1 f2 f3 f4 hbb q1'
    · refine i_cond (fun c3 => ?_) (fun c3 => ?_)
      · refine sw1 @Si.enc.eq_1 ?_
        refine i_mnew (ek := encKI) (ev := encKI) fun mb h3 hb0 hle3 hbM => ?_
        refine sw0 ?_
        have hm0' : h m = none := hm0
        have e1' : MapB encKS mapV (fr h h3) m kv kbs kck := e1.le (fr_mono hle3)
        have hbM' : MapB encKI encKI (fr h h3) mb ([] : List (Int × Int)) [] 0 := hbM.le (fr_fr hle2)
        have hmbm : mb ≠ m := by rintro rfl; exact (e1.le (fr_le h h2)).mem hb0
        refine i_mupd (kb := .str) (ek := encKS) (ev := mapV) (e1'.le (fr_le h h3)) (Heap.le.refl h3) x.tag mb fun o bs' ck' q1 q2 _ => ?_
        refine sw0 ?_
        refine k_meet _ sE ⟨le_set_new (hle2.trans hle3) hm0, ?_, rfl⟩
        rw [fr_set_new hm0, ((e2 x.tag).1 c3)]
        have q1' : MapB encKS mapV ((fr h h3).set m o) m (upd kv x.tag mb) bs' ck' := by
          obtain ⟨es, a1, a2⟩ := q1
          rw [Heap.set_eq] at a1
          exact ⟨es, by rw [Heap.set_eq]; exact a1, a2⟩
        refine EpW.ins e1' e2 (fun t y hy => ?_) e4 hbM' hmbm (fun t y hy => ?_) q1'
        · obtain ⟨n, pl, bs, ck, a, c⟩ := e3 t y hy
          exact ⟨n, pl, bs, ck, a, c.le (fr_mono hle3)⟩
        · rintro rfl
          obtain ⟨n, pl, bs, ck, a, c⟩ := e3 t y hy
          exact (c.le (fr_le h h2)).mem hb0
      · refine sw0 ?_
        refine k_meet _ (by try simp only [Pf]; rfl) ⟨hle2, ?_, rfl⟩
        cases hh : look E x.tag with
        | none => exact absurd ((e2 x.tag).2 hh) c3
        | some pl =>
          simp only [Option.getD_some]
          rw [upd_same hh]
          exact ⟨kv, kbs, kck, e1, e2, e3, e4⟩
  · rintro env h2 ⟨hle2, hE, hgood, rfl⟩
    obtain ⟨W, ev, mw, wkv, bs, ck, gi, ems, hT, hW⟩ := hT
    have Ro := (objAt.le hT.obj (hg.trans hle2)).rules
    have A2 : h2.cell ((⟨b, 0, none⟩ : Addr).add 2) = some ev := Ro.1 2 (by simp)
    have Sev : SlB encM 1 h2 ev ems := hT.evs.le (hg.trans hle2)
    have O1 := Sev.one
    refine sw3 @A2 O1.1 O1.2 ?_
    refine i_bslB encM 1 (fun _ => rfl) [m] rfl rfl (by simp [maxLen]) fun x1 b1 h3 hle3 hb1 hx1 hS1 => ?_
    have O2 := hS1.one
    refine sw2 O2.1 O2.2 ?_
    have hfr : ∀ x, g x ≠ none → gi x = none → join gi (fr h h2) x = none := by
      intro x hx hgx
      cases hg2 : g x with
      | none => exact absurd hg2 hx
      | some o => exact join_none hgx (fr_none (hg x o hg2))
    have St1 := Step.alloc hg hle2
    have hT1 : TrG (join g (fr h h2)) b window need EL W none ev mw wkv bs ck (join gi (fr h h2)) ems := by
      refine hT.more (join_l _ _) (join_l _ _) (fun x o hx => ?_) hfr
      cases hgx : gi x with
      | some o2 => rw [join_l gi _ x o2 hgx] at hx; rw [join_l g _ x o2 (hT.gile x o2 hgx)]; exact hx
      | none =>
        cases hg2 : g x with
        | some o2 => rw [hfr x (by rw [hg2]; simp) hgx] at hx; cases hx
        | none => simp only [join, hgx, hg2] at hx ⊢; exact hx
    have hg3 := St1.le.trans hle3
    refine i_appB (enc := encM) (sz := 1) (g := join g (fr h h2)) (l := ems) (l' := [m]) (fun _ => rfl) (by simp [encM, mapV, one]) hT1.evs hg3 (SlB.sl (enc := encM) (sz := 1) (fun _ => rfl) (hS1.le (fr_le _ _))) (by have := hT.elen; simp; omega) fun ev' h4 g4 hS4 St2 e1 e2 e3 => ?_
    have hob4 : objAt g4 ⟨b, 0, none⟩ [.int .i64 window, .int .i64 need, ev, .map (some mw)] := by
      obtain ⟨q1, c, t, q2, q3⟩ := hT1.obj
      refine ⟨q1, c, t, ?_, q3⟩
      have hb' : blkOf ev' ≠ some b := by
        intro e
        rcases e2 b e with h6 | h6
        · exact hT1.d2.1 h6
        · exact hT1.obj.mem (le_none hg3 b h6)
      rw [show (⟨b, 0, none⟩ : Addr).block = b from rfl, e1 b hT1.d2.1 hb']; exact q2
    have O4 := hS4.one
    refine sw0 ?_
    refine i_st (objAt.le hob4 St2.le) 2 1 (by rw [O4.2]; rfl) (by rw [O4.2]; simp [O4.1]) oM (by simp) fun o k1 k2 => ?_
    have hT5 := hT1.appEv hg3 hS4 e1 e2 (hE.r.le (join_r (hT.gile.trans (hg.trans hle2)) (fr_le _ _))) (o := o) (by
      obtain ⟨q1, c, t, q2, q3⟩ := hob4
      have := k1 g4 (by rw [q2]; exact (St2.le _ _ q2).symm)
      rw [O4.2] at this; simpa using this)
    have St5 : Step g h (g4.set b o) (h4.set b o) := (St1.trans ((Step.more St1.le hle3).trans St2)).trans (Step.set St2.le hob4.mem o)
    obtain ⟨ekv, ebs, eck, n1, n2, n3⟩ := hE.r
    have n1 := n1.le (join_r (hT.gile.trans (hg.trans hle2)) (fr_le h h2))
    have nb : ebs.length = ekv.length := by obtain ⟨_, _, q⟩ := n1; exact q.2.1
    have nd : ebs.Nodup := by obtain ⟨_, _, q⟩ := n1; exact q.2.2.1
    generalize join gi (fr h h2) = gi5 at *
    generalize ems ++ [m] = ems5 at *
    generalize hg5 : g4.set b o = g5 at *
    generalize hh5 : h4.set b o = h5 at *
    clear k1 k2 hob4 e1 e2 e3 hS4 hg3 St2 hT1 hfr St1 hS1 O1 O2 O4 A2 Ro Sev hE hle3 hg5 hh5 hx1 hb1
    refine sw0 ?_
    have hm5 : ∃ es, h5 m = some (.map es eck) := by obtain ⟨es, q, _⟩ := n1; exact ⟨es, (hT5.gile.trans St5.le) _ _ q⟩
    obtain ⟨es5, hes5⟩ := hm5
    refine i_rng hes5 fun r h6 hr hle6 hit => ?_
    obtain ⟨St6, hgr⟩ := St5.cnew hr hle6 (fr_le _ _ _ _ hit)
    refine sw0 ?_
    refine i_meet_blk (fun env h7 => (∃ g7 W7 wkv7 bs7 ck7, Step g h g7 h7 ∧ TrG g7 b window need (EL ++ [l]) W7 none ev' mw wkv7 bs7 ck7 gi5 ems5 ∧ ∀ tag, W7 tag = if toldE EL tag then some (wl window need EL tag) else if toldIn l tag then some [] else none) ∧ env = [some (.pointer (some ⟨b, 0, none⟩)), none, none, none, none, none, none, none, none, none, none, none, none, none, none, none, none, none, none, none, none, none, none, none, none, none, none, none, none, none, none, none, none, none, none, none, none, none, none, none, none, none, none, none, none]) ?_ ?_
    rotate_left
    · refine i_loop (fun _ : List Nat => [some (.pointer (some ⟨b, 0, none⟩)), none, none, none, none, none, none, none, none, none, none, none, none, none, none, none, none, none, none, none, none, none, none, some (.pointer (some ⟨r, 0, none⟩)), none, none, none, none, none, none, none, none, none, none, none, none, none, none, none, none, none, none, none, none, none])
        (fun dn h7 => ∃ g7 W7 wkv7 bs7 ck7, Step g h (join (cell1 r (.mapIter (some m) eck dn.toArray eck)) g7) h7 ∧ g7 r = none ∧ TrG g7 b window need (EL ++ [l]) W7 none ev' mw wkv7 bs7 ck7 gi5 ems5 ∧ (∀ x ∈ dn, x ∈ ebs) ∧ (∀ tag, W7 tag = W tag ∨ (W tag = none ∧ W7 tag = some [] ∧ toldIn l tag)) ∧ (∀ (i : Nat) k v x, ekv[i]? = some (k, v) → ebs[i]? = some x → x ∈ dn → W7 k ≠ none))
        (fun dn => todo ebs dn) [] sE ⟨g5, W, wkv, bs, ck, St6, hgr, hT5, by simp, fun tag => .inl rfl, by intro i k v x _ _ h; simp at h⟩ ?_
      rintro dn h7 ⟨g7, W7, wkv7, bs7, ck7, St7, hg7, hT7, d1, d2, d3⟩
      obtain ⟨it7, hle7⟩ := St7.cr hg7
      have n7 := n1.le (hT7.gile.trans hle7)
      refine sw0 ?_
      refine i_nxt n7 it7 d1 ?_ ?_
      · intro hall
        refine sw0 ?_
        refine k_meet _ sE ⟨⟨g7, W7, wkv7, bs7, ck7, St7.cdrop hg7, hT7, fun tag => ?_⟩, rfl⟩
        have hWt := hW tag
        rcases d2 tag with h1 | ⟨h1, h2, h3⟩
        · rw [h1, hWt]
          by_cases e : toldE EL tag
          · rw [if_pos e, if_pos e]
          · rw [if_neg e, if_neg e]
            by_cases e2 : toldIn l tag
            · have h3 : look (tellE l) tag ≠ none := fun h4 => ((tellE_spec l).1 tag).1 h4 e2
              have h4 : look ekv tag ≠ none := fun h5 => h3 ((n2 tag).1 h5)
              cases h5 : look ekv tag with
              | none => exact absurd h5 h4
              | some v =>
                obtain ⟨j, hj, he⟩ := List.getElem_of_mem (look_mem h5)
                exact absurd (h1.trans (hWt.trans (if_neg e))) (d3 j tag v (ebs[j]'oM) (by rw [List.getElem?_eq_getElem hj, he]) (by rw [List.getElem?_eq_getElem]) (hall _ (List.getElem_mem _)))
            · rw [if_neg e2]
        · have e : ¬ toldE EL tag := by intro e; rw [hWt, if_pos e] at h1; cases h1
          rw [h2, if_neg e, if_pos h3]
      · intro i x k v hi hx hnd
        have St8 := St7.cset hg7 (.mapIter (some m) eck (dn ++ [x]).toArray eck)
        obtain ⟨it8, hle8⟩ := St8.cr hg7
        generalize h7.set r (.mapIter (some m) eck (dn ++ [x]).toArray eck) = h8 at *
        refine sw0 ?_
        refine i_ent (n1.le (hT7.gile.trans hle8)) it8 hi hx ?_
        have Ro := (objAt.le hT7.obj hle8).rules
        have A3 : h8.cell ((⟨b, 0, none⟩ : Addr).add 3) = some (.map (some mw)) := Ro.1 3 (by simp)
        have Rk := (hT7.wm.le hle8).lkps k
        have hd8 : ∀ y ∈ dn ++ [x], y ∈ ebs := by
          intro y hy
          rw [List.mem_append, List.mem_singleton] at hy
          rcases hy with hy | rfl
          · exact d1 y hy
          · exact List.mem_of_getElem? hx
        have hkt : toldIn l k := by
          have h1 : look ekv k ≠ none := fun e => look_none e (List.mem_map.2 ⟨_, List.mem_of_getElem? hi, rfl⟩)
          have h2 : look (tellE l) k ≠ none := fun e => h1 ((n2 k).2 e)
          exact Classical.byContradiction fun h3 => h2 (((tellE_spec l).1 k).2 h3)
        have hmeas : todo ebs (dn ++ [x]) < todo ebs dn := todo_lt (List.mem_of_getElem? hx) hnd
        have hkey : ∀ (j : Nat) k' v' x', ekv[j]? = some (k', v') → ebs[j]? = some x' → x' ∈ dn ++ [x] → x' ∈ dn ∨ k' = k := by
          intro j k' v' x' a1 a2 a3
          rw [List.mem_append, List.mem_singleton] at a3
          refine a3.imp id ?_
          rintro rfl
          have := nodup_idx nd a2 hx
          subst this
          rw [hi] at a1; cases a1; rfl
        cases hlk : look wkv7 k with
        | some w =>
          obtain ⟨l', x', q1, q2, q3, q4⟩ := hT7.wsome k w hlk (by simp)
          rw [hlk, Option.getD_some] at Rk
          have Re := eqv_slB (h := h8) q2 q3
          refine sw4 @A3 @encKS.eq_1 @Rk @Re ?_
          refine k_loop (dn ++ [x]) hmeas sE ⟨g7, W7, wkv7, bs7, ck7, St8, hg7, hT7, hd8, d2, fun j k' v' x' a1 a2 a3 => ?_⟩
          rcases hkey j k' v' x' a1 a2 a3 with h1 | rfl
          · exact d3 j k' v' x' a1 a2 h1
          · rw [q1]; simp
        | none =>
          have hWn := hT7.wnone k hlk
          rw [hlk, Option.getD_none] at Rk
          try simp (disch := first | omega | (simp only [PL]; omega)) only [Zr, simprocAttr, -reduceIte, A3, encKS, Rk, eqv_sl0, Option.isNone_none]
          refine i_bslB encI 1 (fun _ => rfl) [] rfl rfl (by simp [maxLen]) fun x1 b1 h9 hle9 hb1 hx1 hS1 => ?_
          have O1 := hS1.one
          have St9 := Step.alloc (hle8) hle9
          have hgj : Heap.le (join g7 (fr h8 h9)) h9 := St9.le
          have hT9 := hT7.le (join_l g7 (fr h8 h9))
          refine sw2 O1.1 O1.2 ?_
          refine i_mupd (kb := .str) (ek := encKS) (ev := id) hT9.wm hgj k x1 fun o bs' ck' p1 p2 _ => ?_
          have hno : ∀ y, g7 y ≠ none → y ≠ b1 := by
            rintro y hy rfl
            exact hy (le_none hle8 _ hb1)
          have hT10 := hT9.put (.inl rfl) (hS1.le (join_r (hle8.trans hle9) (fr_le _ _))) hx1 (Ne.symm (hno b hT7.obj.mem)) (Ne.symm (hno mw hT7.wm.mem)) (fun e => hno b1 (hT7.evs.mem e) rfl) (by
            cases hgx : gi5 b1 with
            | none => rfl
            | some o => exact absurd rfl (hno b1 (by rw [hT7.gile _ _ hgx]; simp))) (fun t w hw ht e => by
            obtain ⟨l', y, a1, a2, a3, _⟩ := hT7.wsome t w hw (by simp)
            exact hno b1 (a2.mem e) rfl) p1
          obtain ⟨St10, hg10⟩ := St8.cpart hg7 (St9.trans p2)
          refine sw0 ?_
          refine k_loop (dn ++ [x]) hmeas sE ⟨_, _, _, _, _, St10, hg10, hT10, hd8, fun tag => ?_, fun j k' v' x' a1 a2 a3 => ?_⟩
          · by_cases e : tag = k
            · subst e
              refine .inr ⟨?_, by simp, hkt⟩
              rcases d2 tag with h1 | h1
              · rw [← h1]; exact hWn
              · exact h1.1
            · simp only [e, if_false]; exact d2 tag
          · by_cases e : k' = k
            · subst e; simp
            · simp only [e, if_false]
              exact (hkey j k' v' x' a1 a2 a3).elim (fun h1 => d3 j k' v' x' a1 a2 h1) (fun h1 => absurd h1 e)
    · rintro env h7 ⟨⟨g7, W7, wkv7, bs7, ck7, St7, hT7, hW7⟩, rfl⟩
      clear n1 n2 n3 nb nd hes5 hit St6 hgr St5 hT5 hW hle6
      have Ro := (objAt.le hT7.obj St7.le).rules
      have A3 : h7.cell ((⟨b, 0, none⟩ : Addr).add 3) = some (.map (some mw)) := Ro.1 3 (by simp)
      refine sw1 @A3 ?_
      have hm7 : ∃ es, h7 mw = some (.map es ck7) := by obtain ⟨es, q, _⟩ := hT7.wm; exact ⟨es, St7.le _ _ q⟩
      obtain ⟨es7, hes7⟩ := hm7
      refine i_rng hes7 fun r h8 hr hle8 hit => ?_
      obtain ⟨St8, hgr⟩ := St7.cnew hr hle8 (fr_le _ _ _ _ hit)
      refine sw0 ?_
      refine i_loop (fun _ : List Nat => [some (.pointer (some ⟨b, 0, none⟩)), none, none, none, none, none, none, none, none, none, none, none, none, none, none, none, none, none, none, none, none, none, none, none, none, none, none, none, none, none, none, some (.pointer (some ⟨r, 0, none⟩)), none, none, none, none, none, none, none, none, none, none, none, none, none])
        (fun dn h8 => ∃ g8 W8 wkv8, Step g h (join (cell1 r (.mapIter (some mw) ck7 dn.toArray ck7)) g8) h8 ∧ g8 r = none ∧ TrG g8 b window need (EL ++ [l]) W8 none ev' mw wkv8 bs7 ck7 gi5 ems5 ∧ wkv8.map (·.1) = wkv7.map (·.1) ∧ (∀ x ∈ dn, x ∈ bs7) ∧ (∀ (i : Nat) k x, (wkv7.map (·.1))[i]? = some k → bs7[i]? = some x → W8 k = if x ∈ dn then some (wl window need (EL ++ [l]) k) else W7 k))
        (fun dn => todo bs7 dn) [] sE ⟨g7, W7, wkv7, St8, hgr, hT7, rfl, by simp, by simp⟩ ?_
      rintro dn h8 ⟨g8, W8, wkv8, St8, hg8, hT8, hks, d1, d2⟩
      obtain ⟨it8, hle8⟩ := St8.cr hg8
      refine sw0 ?_
      refine i_nxt (hT8.wm.le hle8) it8 d1 ?_ ?_
      · intro hall
        refine sw0 ?_
        refine hK2 hgood h8 g8 (St8.cdrop hg8) ⟨W8, ev', mw, wkv8, bs7, ck7, gi5, ems5, hT8, fun tag => ?_⟩
        obtain ⟨_, _, _, w3, w4, _, w6⟩ := hT8.wm
        have h1 : toldE (EL ++ [l]) tag ↔ toldE EL tag ∨ toldIn l tag := by
          simp only [toldE, List.mem_append, List.mem_singleton]
          constructor
          · rintro ⟨x, hx | rfl, h⟩
            · exact .inl ⟨x, hx, h⟩
            · exact .inr h
          · rintro (⟨x, hx, h⟩ | h)
            · exact ⟨x, .inl hx, h⟩
            · exact ⟨l, .inr rfl, h⟩
        have hw7 := hW7 tag
        by_cases hin : tag ∈ wkv7.map (·.1)
        · obtain ⟨j, hj, he⟩ := List.getElem_of_mem hin
          have hjb : j < bs7.length := by rw [w3, ← List.length_map (f := (·.1)), hks]; exact hj
          have h2 := d2 j tag (bs7[j]) (by rw [List.getElem?_eq_getElem hj, he]) (by rw [List.getElem?_eq_getElem])
          rw [h2, if_pos (hall _ (List.getElem_mem _)), if_pos]
          rw [h1]
          refine Classical.byContradiction fun h3 => ?_
          rw [not_or] at h3
          rw [if_neg h3.1, if_neg h3.2] at hw7
          cases h5 : look wkv7 tag with
          | none => exact look_none h5 hin
          | some v =>
            obtain ⟨l', _, q, _⟩ := hT7.wsome tag v h5 (by simp)
            rw [hw7] at q; cases q
        · have hn8 : look wkv8 tag = none := by
            cases h5 : look wkv8 tag with
            | none => rfl
            | some v => exact absurd (by rw [← hks]; exact List.mem_map.2 ⟨_, look_mem h5, rfl⟩) hin
          have hn7 : look wkv7 tag = none := by
            cases h5 : look wkv7 tag with
            | none => rfl
            | some v => exact absurd (List.mem_map.2 ⟨_, look_mem h5, rfl⟩) hin
          rw [hT8.wnone tag hn8, if_neg]
          rw [h1]
          rw [hT7.wnone tag hn7] at hw7
          rintro (e | e)
          · rw [if_pos e] at hw7; cases hw7
          · rw [if_pos e] at hw7
            split at hw7 <;> cases hw7
      · intro i x k v hi hx hnd
        have St9 := St8.cset hg8 (.mapIter (some mw) ck7 (dn ++ [x]).toArray ck7)
        obtain ⟨it9, hle9⟩ := St9.cr hg8
        generalize h8.set r (.mapIter (some mw) ck7 (dn ++ [x]).toArray ck7) = h9 at *
        refine sw0 ?_
        refine i_ent (hT8.wm.le hle9) it9 hi hx ?_
        refine sw2 @encKS.eq_1 (@id_eq Value) ?_
        obtain ⟨_, _, _, _, w4, _, w6⟩ := hT8.wm
        have hlk : look wkv8 k = some v := look_of_mem w6 (List.mem_of_getElem? hi)
        have hki : (wkv7.map (·.1))[i]? = some k := by rw [← hks, List.getElem?_map, hi]; rfl
        rw [hks] at w6
        obtain ⟨hT9, l0, hl0, hH9⟩ := hT8.hole_of hlk
        refine i_loop (fun s : Value × List Int => [some (.pointer (some ⟨b, 0, none⟩)), none, none, none, none, none, some (.string (str k)), some s.1, none, none, none, none, none, none, none, none, none, none, none, none, none, none, none, none, none, none, none, none, none, none, none, some (.pointer (some ⟨r, 0, none⟩)), none, none, none, none, none, none, none, none, none, none, none, none, none])
          (fun s h10 => ∃ g10, Step g h (join (cell1 r (.mapIter (some mw) ck7 (dn ++ [x]).toArray ck7)) g10) h10 ∧ g10 r = none ∧ TrG g10 b window need (EL ++ [l]) W8 (some k) ev' mw wkv8 bs7 ck7 gi5 ems5 ∧ HoleV g10 b mw wkv8 ev' gi5 k s.1 s.2 ∧ s.2.length ≤ EL.length ∧ (s.2 = wl window need EL k ∨ (¬ toldE EL k ∧ s.2 = List.replicate s.2.length (-1))))
          (fun s => EL.length - s.2.length) (v, l0) sE ⟨g8, St9, hg8, hT9, hH9, ?_⟩ ?_
        · have h1 := d2 i k x hki hx
          rw [if_neg hnd, hW7 k, hl0] at h1
          by_cases e : toldE EL k
          · rw [if_pos e] at h1; cases h1
            exact ⟨by simp [wl], .inl rfl⟩
          · rw [if_neg e] at h1
            by_cases e2 : toldIn l k
            · rw [if_pos e2] at h1; cases h1
              exact ⟨by simp, .inr ⟨e, rfl⟩⟩
            · rw [if_neg e2] at h1; cases h1
        rintro ⟨v1, l1⟩ h10 ⟨g10, St10, hg10, hT10, hH10, hl1, hl2⟩
        dsimp only at hH10 hl1 hl2
        obtain ⟨_, hle10⟩ := St10.cr hg10
        have Ro := (objAt.le hT10.obj hle10).rules
        have A2 : h10.cell ((⟨b, 0, none⟩ : Addr).add 2) = some ev' := Ro.1 2 (by simp)
        have Rl := ((SlB.sl (enc := encI) (sz := 1) (fun _ => rfl) (hH10.1.le hle10)).rules 1 (fun _ => rfl) default)
        have Re := ((SlB.sl (enc := encM) (sz := 1) (fun _ => rfl) (hT10.evs.le hle10)).rules 1 (fun _ => rfl) default)
        have hel := hT10.elen
        have hw : IntKind.i64.wrap ((ems5.length : Int) - 1) = (EL.length : Int) := by rw [hel]; simp only [List.length_append, List.length_cons, List.length_nil]; rw [w64 oM oM]; omega
        have O1 := hH10.1.one
        refine sw4 @A2 @Rl @Re @hw ?_
        refine i_cond (fun c4 => ?_) (fun c4 => ?_)
        · refine sw2 O1.1 O1.2 ?_
          refine i_bslB encI 1 (fun _ => rfl) [-1] rfl rfl (by simp [maxLen]) fun x1 b1 h11 hle11 hb1 hx1 hS1 => ?_
          have O2 := hS1.one
          have hg11 := hle10.trans hle11
          refine sw2 O2.1 O2.2 ?_
          refine i_appB (enc := encI) (sz := 1) (g := g10) (l := l1) (l' := [-1]) (fun _ => rfl) (by simp [encI, one]) hH10.1 hg11 (SlB.sl (enc := encI) (sz := 1) (fun _ => rfl) (hS1.le (fr_le _ _))) (by simp; omega) fun v2 h12 g12 hS12 St12 e1 e2 e3 => ?_
          obtain ⟨hT12, hH12⟩ := HoleV.app hT10 hH10 hg11 (by simp) hS12 e1 e2
          obtain ⟨St13, hg13⟩ := St10.cpart hg10 ((Step.more hle10 hle11).trans St12)
          have O3 := hS12.one
          refine sw2 O3.1 O3.2 ?_
          refine k_loop (v2, l1 ++ [-1]) (by simp; omega) sE ⟨g12, St13, hg13, hT12, hH12, by simp; omega, ?_⟩
          rcases hl2 with h1 | ⟨h1, h2⟩
          · have : l1.length = EL.length := by rw [h1]; simp [wl]
            omega
          · refine .inr ⟨h1, ?_⟩
            rw [List.length_append, List.length_singleton, List.replicate_succ', ← h2]
        · have A3 : h10.cell ((⟨b, 0, none⟩ : Addr).add 3) = some (.map (some mw)) := Ro.1 3 (by simp)
          have hok' : TrOk window need (EL ++ [l]) := ⟨hok.w, hok.n, by simp; omega, fun l' hl' => by
            rw [List.mem_append, List.mem_singleton] at hl'
            rcases hl' with hl' | rfl
            · exact hok.ok l' hl'
            · exact ⟨hgood, hll⟩⟩
          refine sw1 @A3 ?_
          refine i_call H60 ⟨⟨b, 0, none⟩, k, window, need, EL ++ [l], rfl, hT10.r hle10, hok', fun h11 hle11 => ?_⟩
          refine sw0 ?_
          obtain ⟨o1, ho1, hx1⟩ : ∃ o1, g10 b = some o1 ∧ objAt (cell1 b o1) ⟨b, 0, none⟩ [.int .i64 window, .int .i64 need, ev', .map (some mw)] := by
            obtain ⟨q1, c, t, q2, q3⟩ := hT10.obj
            exact ⟨_, q2, q1, c, t, by simp [cell1], q3⟩
          have hxle : ∀ {H : Heap}, H b = some o1 → Heap.le (cell1 b o1) H := by
            intro H hH y z hy
            simp only [cell1] at hy
            split at hy
            · rename_i e; cases hy; rw [e]; exact hH
            · cases hy
          have A3x : (cell1 b o1).cell ((⟨b, 0, none⟩ : Addr).add 3) = some (.map (some mw)) := hx1.rules.1 3 (by simp)
          have hb10 := hle10 _ _ ho1
          refine i_lex (cell1 b o1) (hxle hb10) ?_ (le_one (hxle (hle11 _ _ hb10))) ?_
          · intro l' hl'
            simp only [List.mem_singleton] at hl'
            subst hl'
            exact ⟨true, rfl, fun _ => ⟨.v (.map (some mw)), by try simp (disch := first | omega | (simp only [PL]; omega)) only [Zr, simprocAttr, -reduceIte, A3x]⟩⟩
          refine sw0 ?_
          refine i_bslB encI 1 (fun _ => rfl) [atE window need (EL ++ [l]) k] rfl rfl (by simp [maxLen]) fun x1 b1 h12 hle12 hb1 hx1 hS1 => ?_
          have O2 := hS1.one
          have hle1012 := hle11.trans hle12
          have hg12 := hle10.trans hle1012
          refine sw0 ?_
          refine i_lew (le_one (hxle (hle1012 _ _ hb10))) ?_
          have hvb : blkOf v1 ≠ some b := by
            obtain ⟨_, x, q1, q2, _⟩ := hH10.2
            all_goals (intro e; simp_all)
          refine sw4 O1.1 O1.2 O2.1 O2.2 ?_
          refine i_appB (enc := encI) (sz := 1) (g := g10) (l := l1) (l' := [atE window need (EL ++ [l]) k]) (fun _ => rfl) (by simp [encI, one]) hH10.1 hg12 (SlB.sl (enc := encI) (sz := 1) (fun _ => rfl) (hS1.le (fr_le _ _))) (by simp; omega) fun v2 h13 g13 hS13 St13 e1 e2 e3 => ?_
          obtain ⟨hT13, hH13⟩ := HoleV.app hT10 hH10 hg12 (by simp) hS13 e1 e2
          have O3 := hS13.one
          refine sw0 ?_
          refine i_lew (le_one (hxle (e3 _ _ (hle1012 _ _ hb10) hvb))) ?_
          refine sw2 O3.1 O3.2 ?_
          obtain ⟨hs13, y, y1, y2, y3, y4, y5, y6⟩ := hH13
          refine i_mupd (kb := .str) (ek := encKS) (ev := id) hT13.wm St13.le k v2 fun o bs' ck' p1 p2 p3 => ?_
          have hkin : k ∈ wkv8.map (·.1) := List.mem_map.2 ⟨_, List.mem_of_getElem? hi, rfl⟩
          obtain ⟨rfl, rfl⟩ := p3 hkin
          have hT14 := hT13.put (.inr rfl) hs13 y1 y2 y3 y4 y5 (fun t w hw hne => y6 t w hw hne) p1
          obtain ⟨St14, hg14⟩ := St10.cpart hg10 ((Step.more hle10 hle1012).trans (St13.trans p2))
          refine sw0 ?_
          refine k_loop (dn ++ [x]) (todo_lt (List.mem_of_getElem? hx) hnd) sE ⟨_, _, _, St14, hg14, hT14, ?_, ?_, ?_⟩
          · rw [upd_keys, if_pos hkin, hks]
          · intro z hz
            rw [List.mem_append, List.mem_singleton] at hz
            rcases hz with hz | rfl
            · exact d1 z hz
            · exact List.mem_of_getElem? hx
          · intro j k' x' a1 a2
            by_cases e : k' = k
            · subst e
              have hj := nodup_idx w6 a1 hki
              subst hj
              rw [hx] at a2; cases a2
              rw [if_pos rfl, if_pos (by simp), ← wl_snoc]
              rcases hl2 with h1 | ⟨h1, h2⟩
              · rw [h1]
              · rw [wl_none hok.n.1 h1, h2, show l1.length = EL.length by omega]
            · simp only [e, if_false]
              rw [d2 j k' x' a1 a2]
              have hxx : x' ≠ x := by
                rintro rfl
                have hj := nodup_idx w4 a2 hx
                subst hj
                rw [hki] at a1; cases a1; exact e rfl
              simp [hxx]
end Go.Cw
namespace Go.Cw
open Go
def newBad (w n : Int) : Prop := w < 1 ∨ 8 < w ∨ n < 1 ∨ w < n
instance (w n : Int) : Decidable (newBad w n) := by unfold newBad; infer_instance
def S28 (N : Num) : Spec := fun args h K => ∃ w n, args = [.int .i64 w, .int .i64 n] ∧
  (newBad w n → ∀ h', Heap.le h h' → K (.tuple #[.pointer none, errV N 1]) h') ∧
  (¬ newBad w n → ∀ b h', h b = none → Heap.le h h' → TrO (fr h h') b w.toNat n.toNat [] → K (.tuple #[.pointer (some ⟨b, 0, none⟩), .nilIface]) h')
theorem F28_ok {N : Num} {Γ : Ctx} [GoodC Γ] : Sat (S28 N) (SF N Γ F28) := by
  rintro _ h K ⟨w, n, rfl, hK1, hK2⟩
  refine i_fun rfl ?_
  simp only [F28, Ze, Nat.reduceSub, Nat.reduceAdd]
  refine sw0 ?_
  refine i_cond (fun c1 => ?_) (fun c1 => ?_)
  · refine sw0 ?_
    exact hK1 (by unfold newBad; omega) h (Heap.le.refl h)
  · refine sw0 ?_
    refine i_mnew (ek := encKS) (ev := (id : Value → Value)) fun m h1 hm0 hle1 hmE => ?_
    refine sw0 ?_
    refine i_newO fun b h2 hle2 hb ho => ?_
    refine sw0 ?_
    simp only [newBad] at hK2
    have hbm : b ≠ m := by
      rintro rfl
      exact (hmE.le (fr_le _ _)).mem hb
    refine hK2 oM b h2 (le_none hle1 b hb) (hle1.trans hle2) ⟨fun _ => none, .slice none 0 0, m, [], [], 0, fun _ => none, [], ⟨?_, SlB.nil, hmE.le (fr_mono hle2), fun _ _ => rfl, fun t v h => by simp [look_nil] at h, fun t t' v v' h => by simp [look_nil] at h, hbm, ⟨by simp [blkOf], by simp [blkOf]⟩, rfl, fun i hi => by simp at hi, fun y o hy => (by cases hy), rfl, rfl, fun _ _ => rfl⟩, fun tag => by simp [toldE]⟩
    have h3 := ho.le (fr_fr hle1)
    have e1 : ((w.toNat : Nat) : Int) = w := oM
    have e2 : ((n.toNat : Nat) : Int) = n := oM
    rw [e1, e2]
    exact h3
def S31 : Spec := fun args h K => ∃ g b window need EL, args = [.pointer (some ⟨b, 0, none⟩)] ∧ TrO g b window need EL ∧ Heap.le g h ∧ K (.int .i64 EL.length) h
theorem F31_ok {N : Num} {Γ : Ctx} [GoodC Γ] : Sat S31 (SF N Γ F31) := by
  rintro _ h K ⟨g, b, window, need, EL, rfl, ⟨W, ev, mw, wkv, bs, ck, gi, ems, hT, hW⟩, hg, hK⟩
  refine i_fun rfl ?_
  simp only [F31, Ze, Nat.reduceSub, Nat.reduceAdd]
  have A2 : h.cell ((⟨b, 0, none⟩ : Addr).add 2) = some ev := (objAt.le hT.obj hg).rules.1 2 (by simp)
  have Re := ((SlB.sl (enc := encM) (sz := 1) (fun _ => rfl) (hT.evs.le hg)).rules 1 (fun _ => rfl) default)
  have hel := hT.elen
  refine sw3 @A2 @Re @hel ?_
  exact hK
def S30 (N : Num) : Spec := fun args h K => ∃ g b window need EL tag e, args = [.pointer (some ⟨b, 0, none⟩), .string (str tag), .int .i64 e] ∧ TrO g b window need EL ∧ Heap.le g h ∧
  ((e < 0 ∨ (EL.length : Int) ≤ e) → K (.tuple #[.int .i64 0, errV N 1]) h) ∧
  (0 ≤ e → e < EL.length → ¬ toldE EL tag → K (.tuple #[.int .i64 0, errV N 5]) h) ∧
  (0 ≤ e → e < EL.length → toldE EL tag → K (.tuple #[.int .i64 (atE window need (EL.take (e.toNat + 1)) tag), .nilIface]) h)
theorem MapB.lkpos {h : Heap} {m : Nat} {kv : List (List UInt8 × Value)} {bs : List Nat} {ck : Nat} (hm : MapB encKS id h m kv bs ck) (k : List UInt8) : o2V h (.lkpo .str (.slice none 0 0)) (.v (.map (some m))) (.v (.string (str k))) = some (.v (.tuple #[(look kv k).getD (.slice none 0 0), .bool (look kv k).isSome])) := by
  have := (hm.rules .str).2.1 (.slice none 0 0) k
  rw [show (Value.string (str k)) = encKS k from rfl, this]
  cases look kv k <;> rfl
theorem F30_ok {N : Num} {Γ : Ctx} [GoodC Γ] : Sat (S30 N) (SF N Γ F30) := by
  rintro _ h K ⟨g, b, window, need, EL, tag, e, rfl, ⟨W, ev, mw, wkv, bs, ck, gi, ems, hT, hW⟩, hg, hK1, hK2, hK3⟩
  refine i_fun rfl ?_
  simp only [F30, Ze, Nat.reduceSub, Nat.reduceAdd]
  have A2 : h.cell ((⟨b, 0, none⟩ : Addr).add 2) = some ev := (objAt.le hT.obj hg).rules.1 2 (by simp)
  have A3 : h.cell ((⟨b, 0, none⟩ : Addr).add 3) = some (.map (some mw)) := (objAt.le hT.obj hg).rules.1 3 (by simp)
  have Re := ((SlB.sl (enc := encM) (sz := 1) (fun _ => rfl) (hT.evs.le hg)).rules 1 (fun _ => rfl) default)
  have hel := hT.elen
  have Rk := (hT.wm.le hg).lkpos tag
  have hWt := hW tag
  refine sw3 @A2 @Re @hel ?_
  refine i_cond (fun c1 => ?_) (fun c1 => ?_)
  · refine sw0 ?_
    exact hK1 oM
  · cases hlk : look wkv tag with
    | none =>
      rw [hlk] at Rk
      refine sw2 @A3 @Rk ?_
      refine hK2 oM oM fun e => ?_
      rw [hT.wnone tag hlk, if_pos e] at hWt; cases hWt
    | some v =>
      rw [hlk] at Rk
      obtain ⟨l, x, q1, q2, q3, _⟩ := hT.wsome tag v hlk (by simp)
      have Rv := ((SlB.sl (enc := encI) (sz := 1) (fun _ => rfl) (q2.le hg)).rules1 (fun n => .int .i64 n) (fun _ => rfl) default)
      have ht : toldE EL tag := by
        refine Classical.byContradiction fun h3 => ?_
        rw [if_neg h3, q1] at hWt; cases hWt
      rw [if_pos ht, q1] at hWt
      cases hWt
      obtain ⟨i, rfl⟩ : ∃ i : Nat, e = i := ⟨e.toNat, oM⟩
      have hwl : (wl window need EL tag).length = EL.length := by simp [wl]
      have hge : (wl window need EL tag).getD i default = atE window need (EL.take (i + 1)) tag := by
        rw [List.getD_eq_getElem?_getD, List.getElem?_eq_getElem oM]
        simp [wl]
      rw [hwl] at Rv
      have hi : i < EL.length := oM
      refine sw5 @A3 @Rk @Rv @hge @encI.eq_1 ?_
      exact hK3 oM oM ht
end Go.Cw
namespace Go.Cw
open Go
def encV (v : Value) : List Value := [v]
def SS (h : Heap) (v : Value) (L : List (List Si)) : Prop := ∃ vs : List Value, Sl encV h v vs ∧ vs.length = L.length ∧ ∀ i, i < L.length → Sl Si.enc h (vs.getD i undef) (L.getD i [])
theorem SS.le {h h' : Heap} {v : Value} {L : List (List Si)} (hs : SS h v L) (hl : Heap.le h h') : SS h' v L := by
  obtain ⟨vs, h1, h2, h3⟩ := hs; exact ⟨vs, h1.le hl, h2, fun i hi => (h3 i hi).le hl⟩
end Go.Cw
namespace Go.Cw
open Go
theorem mat_si {w : World} (cs : List Value) (h : Mat w rdTy cs) : ∃ x : Si, True ∧ cs = x.enc := by
  obtain ⟨a, _, rfl, h1⟩ := mat_int h
  obtain ⟨b, _, rfl, h2⟩ := mat_int h1
  obtain ⟨c, _, rfl, h3⟩ := mat_int h2
  obtain ⟨s, _, rfl, _, h4⟩ := mat_str h3
  cases h4
  exact ⟨⟨a, b, c, s⟩, trivial, rfl⟩
end Go.Cw
namespace Go.Cw
open Go
def RTr (h : Heap) (a : Addr) (window need : Nat) (E : List (List Si)) : Prop := ∃ ev fv, objAt h a [.int .i64 window, .int .i64 need, ev, fv] ∧ SS h ev E ∧ E.length ≤ 1000 ∧ ∀ l ∈ E, l.length ≤ 2000
end Go.Cw
namespace Go.Cw
open Go
theorem OwnS.put {α : Type} {enc : α → List Value} {sz : Nat} (he : ∀ x, (enc x).length = sz) {h0 h : Heap} {v : Value} {L M : List α} (hone : ∀ x ∈ M, (enc x).all Cw.one = true) (ho : OwnS enc sz h0 h v L) {j : Nat} (hj : j + M.length ≤ L.length) (hL : L ≠ []) :
    ∃ h', putRow h (elt v (j * sz)) (M.flatMap enc) = some h' ∧ OwnS enc sz h0 h' v (L.take j ++ M ++ L.drop (j + M.length)) := by
  obtain ⟨h1, a, cap, rfl, h2, h3, h4⟩ := ho
  rcases h4 with ⟨_, e, _⟩ | ⟨b, c, t, rfl, hb0, hb, hcs, hc⟩
  · exact absurd e hL
  have fl := flat_len he L
  have flM := flat_len he M
  have hle : j * sz + M.length * sz ≤ L.length * sz := by rw [← Nat.add_mul]; exact Nat.mul_le_mul_right sz hj
  have hcap : L.length * sz ≤ cap * sz := Nat.mul_le_mul_right sz h2
  have hlen : (L.take j ++ M ++ L.drop (j + M.length)).length = L.length := by simp only [List.length_append, List.length_take, List.length_drop]; omega
  have hall : (M.flatMap enc).all Cw.one = true := by
    rw [List.all_flatMap, List.all_eq_true]; intro y hy; exact hone y hy
  refine ⟨h.set b (.cells (putL c (j * sz) (M.flatMap enc)) t (0, 0)), ?_, ?_⟩
  · simp only [elt]
    rw [addr_add' _ rfl]
    cases hf : M.flatMap enc with
    | nil =>
      simp only [putRow, putL, Option.some.injEq]
      funext y
      simp only [Heap.set]
      split
      · rename_i e; subst e; exact hb
      · rfl
    | cons y ys =>
      have q1 : 0 + j * sz + (y :: ys).length ≤ c.size := by rw [← hf, flM, hcs]; omega
      have q2 : (y :: ys).all Cw.one = true := by rw [← hf]; exact hall
      simp only [putRow, Option.isSome_none, Bool.false_eq_true, if_false, hb]
      rw [if_pos ⟨q1, q2⟩]
      simp
  · refine ⟨h1.over hb0 _, some ⟨b, 0, none⟩, cap, by rw [hlen], by rw [hlen]; exact h2, h3, .inr ⟨b, _, t, rfl, hb0, Heap.set_eq, ?_, ?_⟩⟩
    · rw [(putL_get c (M.flatMap enc) (j * sz) 0 (by rw [flM, hcs]; omega)).1, hcs]
    · intro i hi
      rw [(putL_get c (M.flatMap enc) (j * sz) i (by rw [flM, hcs]; omega)).2, flM]
      have f1 : ((L.take j).flatMap enc).length = j * sz := by rw [flat_len he, List.length_take]; congr 1; omega
      have hsplit : L.flatMap enc = (L.take j).flatMap enc ++ (((L.drop j).take M.length).flatMap enc ++ (L.drop (j + M.length)).flatMap enc) := by
        rw [← List.flatMap_append, ← List.flatMap_append, ← List.drop_drop, List.take_append_drop, List.take_append_drop]
      have f2 : (((L.drop j).take M.length).flatMap enc).length = M.length * sz := by
        rw [flat_len he, List.length_take, List.length_drop]; congr 1; omega
      rw [List.flatMap_append, List.flatMap_append, List.append_assoc]
      rw [flat_len he, hlen] at hi
      have hci := hc i (by rw [fl]; exact hi)
      by_cases e1 : i < j * sz
      · rw [if_neg oM, hci, hsplit, List.getElem?_append_left (by rw [f1]; exact e1), List.getElem?_append_left (by rw [f1]; exact e1)]
      · rw [List.getElem?_append_right (by rw [f1]; omega), f1]
        by_cases e2 : i < j * sz + M.length * sz
        · rw [if_pos ⟨oM, e2⟩, List.getElem?_append_left (by rw [flM]; omega)]
        · rw [if_neg oM, hci, hsplit, List.getElem?_append_right (by rw [f1]; omega), f1, List.getElem?_append_right (by rw [f2]; omega), List.getElem?_append_right (by rw [flM]; omega), f2, flM]
end Go.Cw
namespace Go.Cw
open Go
def encT (s : List UInt8) : List Value := [.string (str s)]
def insT : List (List UInt8) → List UInt8 → List (List UInt8)
  | [], s => [s]
  | x :: l, s => if Op.bytesLess x s then x :: insT l s else if x = s then x :: l else s :: x :: l
theorem insT_len (s : List UInt8) : ∀ l : List (List UInt8), (insT l s).length ≤ l.length + 1 := by
  intro l
  induction l with
  | nil => simp [insT]
  | cons x l ih =>
    simp only [insT]
    split
    · simp; omega
    · split <;> simp
theorem mem_insT (s t : List UInt8) : ∀ l : List (List UInt8), t ∈ insT l s ↔ t = s ∨ t ∈ l := by
  intro l
  induction l with
  | nil => simp [insT]
  | cons x l ih =>
    simp only [insT]
    split
    · simp only [List.mem_cons, ih]
      constructor
      · rintro (h | h | h) <;> simp [h]
      · rintro (h | h | h) <;> simp [h]
    · split
      · rename_i e; subst e; simp
      · simp
def tagsOfL (l : List (List UInt8)) : List (List UInt8) := l.foldl insT []
theorem tagsOfL_snoc (l : List (List UInt8)) (s : List UInt8) : tagsOfL (l ++ [s]) = insT (tagsOfL l) s := by simp [tagsOfL]
theorem tagsOfL_len (l : List (List UInt8)) : (tagsOfL l).length ≤ l.length := by
  induction l using snoc_ind with
  | h0 => simp [tagsOfL]
  | hs l s ih => rw [tagsOfL_snoc]; have := insT_len s (tagsOfL l); simp; omega
theorem mem_tagsOfL (l : List (List UInt8)) (t : List UInt8) : t ∈ tagsOfL l ↔ t ∈ l := by
  induction l using snoc_ind with
  | h0 => simp [tagsOfL]
  | hs l s ih => rw [tagsOfL_snoc, mem_insT, ih, List.mem_append, List.mem_singleton]; exact or_comm
def flatT (E : List (List Si)) : List (List UInt8) := (E.flatMap id).map (·.tag)
def tagsE (E : List (List Si)) : List (List UInt8) := tagsOfL (flatT E)
theorem flatT_snoc (E : List (List Si)) (l : List Si) : flatT (E ++ [l]) = flatT E ++ l.map (·.tag) := by simp [flatT]
theorem flatT_len (E : List (List Si)) (h : ∀ l ∈ E, l.length ≤ 2000) : (flatT E).length ≤ 2000 * E.length := by
  induction E using snoc_ind with
  | h0 => simp [flatT]
  | hs E l ih =>
    have h1 := ih fun x hx => h x (by simp [hx])
    have h2 := h l (by simp)
    rw [flatT_snoc]
    simp only [List.length_append, List.length_map, List.length_singleton]
    omega
theorem mem_flatT (E : List (List Si)) (t : List UInt8) : t ∈ flatT E ↔ toldE E t := by
  simp only [flatT, List.mem_map, List.mem_flatMap, id, toldE, toldIn]
  constructor
  · rintro ⟨s, ⟨l, hl, hs⟩, rfl⟩; exact ⟨l, hl, s, hs, rfl⟩
  · rintro ⟨l, hl, s, hs, rfl⟩; exact ⟨s, ⟨l, hl, hs⟩, rfl⟩
theorem mem_tagsE (E : List (List Si)) (t : List UInt8) : t ∈ tagsE E ↔ toldE E t := by rw [tagsE, mem_tagsOfL, mem_flatT]
end Go.Cw
namespace Go.Cw
open Go
theorem bless_irr : ∀ a : List UInt8, Op.bytesLess a a = false := by
  intro a
  induction a with
  | nil => rfl
  | cons x a ih => simp [Op.bytesLess, ih]
theorem bless_trans : ∀ {a b c : List UInt8}, Op.bytesLess a b = true → Op.bytesLess b c = true → Op.bytesLess a c = true := by
  intro a
  induction a with
  | nil =>
    intro b c h1 h2
    cases c with
    | nil => cases b <;> simp [Op.bytesLess] at h2
    | cons z c => rfl
  | cons x a ih =>
    intro b c h1 h2
    cases b with
    | nil => simp [Op.bytesLess] at h1
    | cons y b =>
      cases c with
      | nil => simp [Op.bytesLess] at h2
      | cons z c =>
        simp only [Op.bytesLess, Bool.or_eq_true, decide_eq_true_eq, Bool.and_eq_true, beq_iff_eq] at h1 h2 ⊢
        rcases h1 with h1 | ⟨rfl, h1⟩
        · rcases h2 with h2 | ⟨rfl, _⟩
          · exact .inl (UInt8.lt_trans h1 h2)
          · exact .inl h1
        · rcases h2 with h2 | ⟨rfl, h2⟩
          · exact .inl h2
          · exact .inr ⟨rfl, ih h1 h2⟩
theorem bless_tot : ∀ {a b : List UInt8}, Op.bytesLess a b = false → a ≠ b → Op.bytesLess b a = true := by
  intro a
  induction a with
  | nil =>
    intro b h1 h2
    cases b with
    | nil => exact absurd rfl h2
    | cons y b => simp [Op.bytesLess] at h1
  | cons x a ih =>
    intro b h1 h2
    cases b with
    | nil => rfl
    | cons y b =>
      simp only [Op.bytesLess, Bool.or_eq_false_iff, decide_eq_false_iff_not, Bool.and_eq_false_imp, beq_iff_eq] at h1
      simp only [Op.bytesLess, Bool.or_eq_true, decide_eq_true_eq, Bool.and_eq_true, beq_iff_eq]
      by_cases e : x = y
      · subst e
        exact .inr ⟨rfl, ih (h1.2 rfl) (fun e => h2 (by rw [e]))⟩
      · refine .inl ?_
        rcases UInt8.lt_or_lt_of_ne (Ne.symm e) with h | h
        · exact h
        · exact absurd h h1.1
theorem bless_asymm {a b : List UInt8} (h : Op.bytesLess a b = true) : Op.bytesLess b a = false := by
  cases hb : Op.bytesLess b a with
  | false => rfl
  | true => have := bless_trans h hb; rw [bless_irr] at this; cases this
def ordT (l : List (List UInt8)) : Prop := l.Pairwise fun a b => Op.bytesLess a b = true
theorem ordT_ins (s : List UInt8) : ∀ l, ordT l → ordT (insT l s) := by
  intro l
  induction l with
  | nil => intro _; simp [insT, ordT]
  | cons x l ih =>
    intro h
    have h1 := List.pairwise_cons.1 h
    simp only [insT]
    split
    · rename_i hx
      refine List.pairwise_cons.2 ⟨fun y hy => ?_, ih h1.2⟩
      rcases (mem_insT s y l).1 hy with rfl | hy
      · exact hx
      · exact h1.1 y hy
    · rename_i hx
      split
      · exact h
      · rename_i hne
        have hsx : Op.bytesLess s x = true := bless_tot (by simpa using hx) hne
        refine List.pairwise_cons.2 ⟨fun y hy => ?_, h⟩
        simp only [List.mem_cons] at hy
        rcases hy with rfl | hy
        · exact hsx
        · exact bless_trans hsx (h1.1 y hy)
theorem ordT_tagsOfL (l : List (List UInt8)) : ordT (tagsOfL l) := by
  induction l using snoc_ind with
  | h0 => simp [tagsOfL, ordT]
  | hs l s ih => rw [tagsOfL_snoc]; exact ordT_ins s _ ih
theorem ordT_nodup {l : List (List UInt8)} (h : ordT l) : l.Nodup := by
  refine List.Pairwise.imp (fun {a b} h e => ?_) h
  subst e; rw [bless_irr] at h; cases h
theorem tagsE_nodup (E : List (List Si)) : (tagsE E).Nodup := ordT_nodup (ordT_tagsOfL _)
theorem nodup_len {α : Type} [DecidableEq α] {l m : List α} (hl : l.Nodup) (hm : m.Nodup) (h : ∀ x, x ∈ l ↔ x ∈ m) : l.length = m.length := by
  have h1 : ∀ {l m : List α}, l.Nodup → (∀ x ∈ l, x ∈ m) → l.length ≤ m.length := by
    intro l
    induction l with
    | nil => intro m _ _; simp
    | cons a l ih =>
      intro m hn hs
      have hn' := List.nodup_cons.1 hn
      have ha := hs a (by simp)
      have := ih (m := m.erase a) hn'.2 fun x hx => by
        have : x ≠ a := by rintro rfl; exact hn'.1 hx
        exact (List.mem_erase_of_ne this).2 (hs x (by simp [hx]))
      rw [List.length_erase_of_mem ha] at this
      have := List.length_pos_of_mem ha
      simp; omega
  exact Nat.le_antisymm (h1 hl fun x hx => (h x).1 hx) (h1 hm fun x hx => (h x).2 hx)
end Go.Cw
namespace Go.Cw
open Go
def dig (d : Nat) : UInt8 := UInt8.ofNat (48 + d % 10)
def dec (n : Nat) : List UInt8 := if h : n < 10 then [dig n] else dec (n / 10) ++ [dig n]
termination_by n
decreasing_by omega
def keyOf (tag : List UInt8) (e : Nat) : List UInt8 := tag ++ [64] ++ dec e
end Go.Cw
namespace Go.Cw
open Go
structure Tg where
  kind : Int
  filter : Int
  part : Int
  company : Int
  ref : Int
  serial : Int
  deriving DecidableEq, Inhabited
def Tg.enc (t : Tg) : List Value := [.int .i64 t.kind, .int .i64 t.filter, .int .i64 t.part, .int .i64 t.company, .int .i64 t.ref, .int .i64 t.serial]
def Tg.zero : Tg := ⟨0, 0, 0, 0, 0, 0⟩
structure Pa where
  cb : Nat
  cd : Nat
  rb : Nat
  rd : Nat
  deriving DecidableEq, Inhabited
def Pa.enc (p : Pa) : List Value := [.int .i64 p.cb, .int .i64 p.cd, .int .i64 p.rb, .int .i64 p.rd]
def partsOf (p : Int) : Option Pa :=
  if p = 0 then some ⟨20, 6, 6, 1⟩ else if p = 1 then some ⟨17, 5, 9, 2⟩ else if p = 2 then some ⟨14, 4, 12, 3⟩ else if p = 3 then some ⟨10, 3, 16, 4⟩ else if p = 4 then some ⟨7, 2, 19, 5⟩ else if p = 5 then some ⟨4, 1, 22, 6⟩ else none
theorem partsOf_none {p : Int} : partsOf p = none ↔ p < 0 ∨ 6 ≤ p := by
  unfold partsOf
  repeat' split
  all_goals simp
  all_goals omega
theorem partsOf_some {p : Int} {a : Pa} (h : partsOf p = some a) : a.cb + a.rb = 26 ∧ 1 ≤ a.cd ∧ a.cd ≤ 6 ∧ 1 ≤ a.rd ∧ a.rd ≤ 6 ∧ 4 ≤ a.cb ∧ a.cb ≤ 20 ∧ 6 ≤ a.rb ∧ a.rb ≤ 22 := by
  unfold partsOf at h
  repeat' split at h
  all_goals first | (cases h; done) | (cases h; simp)
def Tg.bad (t : Tg) : Prop := match partsOf t.part with
  | none => True
  | some a => t.kind < 1 ∨ 3 < t.kind ∨ t.filter < 0 ∨ 7 < t.filter ∨ t.serial < 0 ∨ 16777215 < t.serial ∨ t.company < 0 ∨ (10 ^ a.cd : Nat) ≤ t.company ∨ t.ref < 0 ∨ (10 ^ a.rd : Nat) ≤ t.ref
instance Tg.decBad (t : Tg) : Decidable t.bad := by unfold Tg.bad; split <;> infer_instance
def num (b : List UInt8) : Nat := b.foldl (fun a x => a * 256 + x.toNat) 0
theorem num_snoc (b : List UInt8) (x : UInt8) : num (b ++ [x]) = num b * 256 + x.toNat := by simp [num]
theorem num_lt (b : List UInt8) : num b < 256 ^ b.length := by
  induction b using snoc_ind with
  | h0 => simp [num]
  | hs b x ih =>
    have := x.toNat_lt
    rw [num_snoc, List.length_append, List.length_singleton, Nat.pow_succ]
    omega
def tagAt (n : Nat) (a : Pa) : Tg := ⟨((n / 2 ^ 56 : Nat) : Int) - 47, (n / 2 ^ 53 % 8 : Nat), (n / 2 ^ 50 % 8 : Nat), (n / 2 ^ (24 + a.rb) % 2 ^ a.cb : Nat), (n / 2 ^ 24 % 2 ^ a.rb : Nat), (n % 2 ^ 24 : Nat)⟩
def tagOf (b : List UInt8) : Option Tg :=
  if b.length ≠ 8 then none else match partsOf (num b / 2 ^ 50 % 8 : Nat) with
    | none => none
    | some a => if (tagAt (num b) a).bad then none else some (tagAt (num b) a)
def kindOf (b : List UInt8) : Int := match tagOf b with
  | none => 0
  | some t => t.kind
end Go.Cw
namespace Go.Cw
open Go
def bsum (l : List UInt8) : Nat := l.foldl (fun a b => (a + b.toNat) % 256) 0
theorem bsum_take {l : List UInt8} {i : Nat} (hi : i < l.length) : bsum (l.take (i + 1)) = (bsum (l.take i) + (l.getD i 0).toNat) % 256 := by
  unfold bsum
  rw [List.take_succ_eq_append_getElem hi, List.foldl_append]; simp [List.getD_eq_getElem?_getD, hi]
theorem bsum_lt (l : List UInt8) : bsum l < 256 := by
  rcases List.eq_nil_or_concat l with rfl | ⟨l', x, rfl⟩
  · decide
  · unfold bsum; simp only [List.concat_eq_append, List.foldl_append, List.foldl_cons, List.foldl_nil]; omega
theorem w8 (n : Int) : IntKind.u8.wrap n = n % 256 := by simp [IntKind.wrap, IntKind.bits, IntKind.signed]
theorem inv8' (n : Nat) (h : n < 256) : IntKind.u8.wrap ((BitVec.ofNat 8 255 ^^^ BitVec.ofNat 8 n).toNat : Nat) = 255 - (n : Int) := by
  have h1 : BitVec.ofNat 8 255 = BitVec.allOnes 8 := by decide
  rw [h1, BitVec.allOnes_xor, BitVec.toNat_not, BitVec.toNat_ofNat, w8]
  omega
theorem inv8 {n : Nat} (h : n < 256) : IntKind.u8.wrap ((BitVec.ofInt IntKind.u8.bits (if IntKind.u8.signed = true then -1 else IntKind.u8.max) ^^^ BitVec.ofInt IntKind.u8.bits (n : Int)).toNat) = 255 - (n : Int) := inv8' n h
def S56 : Spec := fun args h K => ∃ l : List UInt8, args = [.string (str l)] ∧ l.length < 2 ^ 62 ∧ K (.int .u8 (255 - (bsum l : Int))) h
theorem F56_ok {N : Num} {Γ : Ctx} [GoodC Γ] : Sat S56 (SF N Γ F56) := by
  rintro _ h K ⟨l, rfl, hsz, hK⟩
  refine i_fun rfl ?_
  simp only [F56, Ze, Nat.reduceSub, Nat.reduceAdd]
  refine sw0 ?_
  refine i_loop (fun i : Nat => [some (.string (str l)), some (.int .u8 0), some (.int .u8 (bsum (l.take i))), none, some (.int .i64 l.length), some (.int .i64 i), none]) (fun i h' => i ≤ l.length ∧ h' = h) (fun i => l.length - i) 0 ?_ ⟨oM, rfl⟩ ?_
  · try simp only [Pf]; exact ⟨rfl, rfl⟩
  · rintro i h' ⟨hi, rfl⟩
    refine sw0 ?_
    refine i_cond (fun c1 => ?_) (fun c1 => ?_)
    · skip
      refine sw0 ?_
      refine k_loop (i + 1) oM ?_ ⟨oM, rfl⟩
      try simp only [Pf]
      rw [bsum_take oM, w8]; rfl
    · refine sw0 ?_
      have : i = l.length := oM
      rw [this, List.take_length, inv8 (bsum_lt _)]
      exact hK
end Go.Cw
namespace Go.Cw
open Go
structure Rd where
  ant : Int
  str : Int
  age : Int
  tag : List UInt8
  deriving DecidableEq, Inhabited
def Rd.enc (r : Rd) : List Value := [.int .i64 r.ant, .int .i64 r.str, .int .i64 r.age, .string (Cw.str r.tag)]
structure Fr where
  ty : Int
  reads : List Rd
  warm : Int
  deriving DecidableEq, Inhabited
def FrV (h : Heap) (v : Value) (f : Fr) : Prop := ∃ s, v = .agg #[.int .i64 f.ty, s, .int .i64 f.warm] ∧ Sl Rd.enc h s f.reads
def Rd.bad (r : Rd) : Prop := r.ant < 0 ∨ 3 < r.ant ∨ r.str < 0 ∨ 255 < r.str ∨ r.age < 0 ∨ 255 < r.age ∨ r.tag.length ≠ 8
instance (r : Rd) : Decidable r.bad := by unfold Rd.bad; infer_instance
def Fr.fault (f : Fr) : Nat :=
  if f.ty < 1 ∨ f.ty > 3 then 1
  else if (f.ty ≠ 1 ∧ 0 < f.reads.length) ∨ (f.ty ≠ 3 ∧ f.warm ≠ 0) then 3
  else if f.warm < 0 ∨ f.warm > 255 then 1
  else if 4 < f.reads.length then 2
  else if ∃ r ∈ f.reads, r.bad then 1
  else 0
end Go.Cw
namespace Go.Cw
open Go
end Go.Cw
namespace Go.Cw
open Go
theorem i_cal {N : Num} {Γ : Ctx} {S : Spec} {k : Nat} {us : List Value} {caps : Array Value} {h : Heap} {K : Value → Heap → Prop} (hs : Sat S (Γ k)) (hx : S (us ++ caps.toList) h K) : efW N Γ .cal (.func (.func (N.fid k)) #[] caps :: us) h K := ⟨k, rfl, rfl, hs _ _ _ hx⟩
def paV (p : Int) : Value := .agg ((partsOf p).elim [.int .i64 0, .int .i64 0, .int .i64 0, .int .i64 0] Pa.enc).toArray
def S117 : Spec := fun args h K => ∃ n : Nat, args = [.int .i64 n] ∧ n ≤ 18 ∧ K (.int .i64 (10 ^ n : Nat)) h
theorem F117_ok {N : Num} {Γ : Ctx} [GoodC Γ] : Sat S117 (SF N Γ F117) := by
  rintro _ h K ⟨n, rfl, hn, hK⟩
  refine i_fun rfl ?_
  simp only [F117, Ze, Nat.reduceSub, Nat.reduceAdd]
  refine sw0 ?_
  refine i_loop (fun i : Nat => [some (.int .i64 n), some (.int .i64 0), some (.int .i64 (10 ^ i : Nat)), some (.int .i64 n), some (.int .i64 i), none]) (fun i h1 => h1 = h ∧ i ≤ n) (fun i => n - i) 0 (by rw [Nat.pow_zero]; try simp only [Pf]; exact ⟨rfl, rfl⟩) ⟨rfl, oM⟩ ?_
  rintro i h1 ⟨rfl, hi⟩
  refine sw0 ?_
  refine i_cond (fun c => ?_) (fun c => ?_)
  · have hp : 10 ^ i * 10 ≤ 10 ^ 18 := by rw [← Nat.pow_succ]; exact Nat.pow_le_pow_right oM oM
    have hp2 : IntKind.i64.wrap (((10 ^ i : Nat) : Int) * 10) = ((10 ^ (i + 1) : Nat) : Int) := by
      rw [w64 oM oM, Nat.pow_succ]; omega
    refine sw1 @hp2 ?_
    exact k_loop (i + 1) oM sE ⟨rfl, oM⟩
  · have : i = n := oM
    subst this
    refine sw0 ?_
    exact hK
def S107 : Spec := fun args h K => ∃ p, args = [.int .i64 p] ∧ ∀ h', Heap.le h h' → K (.tuple #[paV p, .bool (partsOf p).isSome]) h'
theorem F107_ok {N : Num} {Γ : Ctx} [GoodC Γ] : Sat S107 (SF N Γ F107) := by
  rintro _ h K ⟨p, rfl, hK⟩
  refine i_fun rfl ?_
  simp only [F107, Ze, Nat.reduceSub, Nat.reduceAdd]
  refine sw0 ?_
  refine i_newO fun b h1 hle1 hb ho => ?_
  refine sw0 ?_
  have ho1 := ho.le (fr_le h h1)
  refine i_st ho1 0 24 rfl rfl oM (Nat.le_refl 24) fun o hob _ => ?_
  have hob2 : objAt (h1.set b o) ⟨b, 0, none⟩ [.int .i64 20, .int .i64 6, .int .i64 6, .int .i64 1, .int .i64 17, .int .i64 5, .int .i64 9, .int .i64 2, .int .i64 14, .int .i64 4, .int .i64 12, .int .i64 3, .int .i64 10, .int .i64 3, .int .i64 16, .int .i64 4, .int .i64 7, .int .i64 2, .int .i64 19, .int .i64 5, .int .i64 4, .int .i64 1, .int .i64 22, .int .i64 6] := hob h1 rfl
  have hle2 : Heap.le h (h1.set b o) := by
    intro x ob hx
    have : x ≠ b := by intro e; subst e; rw [hb] at hx; cases hx
    rw [Heap.set_ne this]; exact hle1 x ob hx
  generalize h1.set b o = h2 at *
  have hrow := hob2.row
  have hK2 := hK h2 hle2
  clear hK
  refine sw0 ?_
  refine i_cond (fun c => ?_) (fun c => ?_)
  · have hn := partsOf_none.2 (show p < 0 ∨ 6 ≤ p by omega)
    unfold paV at hK2
    rw [hn] at hK2
    refine sw0 ?_
    exact hK2
  · have hp : p = 0 ∨ p = 1 ∨ p = 2 ∨ p = 3 ∨ p = 4 ∨ p = 5 := oM
    have r0 := hrow.row (i := 0) (n := 4) (by simp)
    have r1 := hrow.row (i := 4) (n := 4) (by simp)
    have r2 := hrow.row (i := 8) (n := 4) (by simp)
    have r3 := hrow.row (i := 12) (n := 4) (by simp)
    have r4 := hrow.row (i := 16) (n := 4) (by simp)
    have r5 := hrow.row (i := 20) (n := 4) (by simp)
    have haa : ∀ (k : IntKind) (n : Nat), n < 6 → o2V h2 (.aadr 6 4) (.v (.pointer (some ⟨b, 0, none⟩))) (.v (.int k (n : Int))) = some (.v (.pointer (some ((⟨b, 0, none⟩ : Addr).add (n * 4))))) := by
      intro k n hn
      have hb : inBounds (n : Int) 6 = true := by simp [inBounds]; omega
      simp only [o2V, hb, if_true, Int.toNat_natCast]
    rcases hp with rfl | rfl | rfl | rfl | rfl | rfl
    · have := haa .i64 0 oM
      refine sw2 @this @r0 ?_
      exact hK2
    · have := haa .i64 1 oM
      refine sw2 @this @r1 ?_
      exact hK2
    · have := haa .i64 2 oM
      refine sw2 @this @r2 ?_
      exact hK2
    · have := haa .i64 3 oM
      refine sw2 @this @r3 ?_
      exact hK2
    · have := haa .i64 4 oM
      refine sw2 @this @r4 ?_
      exact hK2
    · have := haa .i64 5 oM
      refine sw2 @this @r5 ?_
      exact hK2
end Go.Cw
namespace Go.Cw
open Go Go.Sort Go.Proofs
def kv (v : Value) (h h' : Heap) : Prop := ∀ x o, h x = some o → blkOf v ≠ some x → h' x = some o
theorem kv.refl {v : Value} {h : Heap} : kv v h h := fun _ _ h _ => h
theorem kv.trans {v : Value} {h h' h'' : Heap} (a : kv v h h') (b : kv v h' h'') : kv v h h'' := fun x o h1 h2 => b x o (a x o h1 h2) h2
theorem kv.of_le {v : Value} {h h' : Heap} (a : Heap.le h h') : kv v h h' := fun x o h1 _ => a x o h1
def Rw (F h : Heap) (v : Value) (d : Array Si) : Prop := OwnS Si.enc 4 F h v d.toList
theorem Rw.le {F h h' : Heap} {v : Value} {d : Array Si} (a : Rw F h v d) (hl : Heap.le h h') : Rw F h' v d := OwnS.le a hl
structure So (N : Num) (Γ : Ctx) (F : Heap) (v : Value) (fl fs : Nat) (cl cs : Array Value) (lt : Si → Si → Bool) (n : Nat) : Prop where
  less : ∀ (H : Heap) (d : Array Si) (i j : Nat) (K : Value → Heap → Prop), d.size = n → Rw F H v d → i < n → j < n → (∀ H', Heap.le H H' → K (.bool (lt d[i]! d[j]!)) H') → efW N Γ .cal [.func (.func fl) #[] cl, .int .i64 i, .int .i64 j] H K
  swap : ∀ (H : Heap) (d : Array Si) (i j : Nat) (K : Value → Heap → Prop), d.size = n → Rw F H v d → i < n → j < n → (∀ H', Rw F H' v (swp d i j) → kv v H H' → K (.tuple #[]) H') → efW N Γ .cal [.func (.func fs) #[] cs, .int .i64 i, .int .i64 j] H K
  size : n ≤ 100000000
def S98 (N : Num) (Γ : Ctx) : Spec := fun args h K => ∃ F v fl fs cl cs lt d, ∃ a b : Nat, args = [.agg #[.func (.func fl) #[] cl, .func (.func fs) #[] cs], .int .i64 a, .int .i64 b] ∧ So N Γ F v fl fs cl cs lt d.size ∧ Rw F h v d ∧ a ≤ b ∧ b ≤ d.size ∧
  ∀ h', Rw F h' v (insertionSort lt d a b) → kv v h h' → K (.tuple #[]) h'
theorem F98_ok {N : Num} {Γ : Ctx} [GoodC Γ] : Sat (S98 N Γ) (SF N Γ F98) := by
  rintro _ h K ⟨F, v, fl, fs, cl, cs, lt, d, a, b, rfl, hS, hd, hab, hb, hK⟩
  have hsz := hS.size
  refine i_fun rfl ?_
  simp only [F98, Ze, Nat.reduceSub, Nat.reduceAdd]
  refine sw0 ?_
  refine i_loop (fun x : Nat × Array Si => [some (.agg #[.func (.func fl) #[] cl, .func (.func fs) #[] cs]), some (.int .i64 a), some (.int .i64 b), some (.agg #[.func (.func fl) #[] cl, .func (.func fs) #[] cs]), some (.int .i64 (x.1 : Nat)), none, none, none, none, none])
    (fun x H => a < x.1 ∧ x.1 ≤ b + 1 ∧ x.2.size = d.size ∧ Rw F H v x.2 ∧ kv v h H ∧ insOuter lt a b x.1 x.2 = insOuter lt a b (a + 1) d) (fun x => b + 1 - x.1) (a + 1, d) (by dsimp only; try simp only [Pf]) ⟨dM, dM, rfl, hd, kv.refl, rfl⟩ ?_
  rintro ⟨i, dk⟩ H ⟨hai, hib, hsk, hR, hkv, hO⟩
  dsimp only at hai hib hsk hR hO ⊢
  have hw : IntKind.i64.wrap ((i : Int) + 1) = ((i + 1 : Nat) : Int) := by rw [w64 oM oM]; omega
  refine sw0 ?_
  refine i_cond (fun c => ?_) (fun c => ?_)
  rotate_left
  · refine sw0 ?_
    refine hK H ?_ hkv
    unfold insertionSort
    rw [← hO, insOuter_stop _ _ _ _ _ oM]
    exact hR
  have hib2 : i < b := oM
  refine sw0 ?_
  refine i_loop (fun x : Nat × Array Si => [some (.agg #[.func (.func fl) #[] cl, .func (.func fs) #[] cs]), some (.int .i64 a), some (.int .i64 b), some (.agg #[.func (.func fl) #[] cl, .func (.func fs) #[] cs]), some (.int .i64 (i : Nat)), some (.int .i64 (x.1 : Nat)), none, none, none, none])
    (fun x H2 => a ≤ x.1 ∧ x.1 ≤ i ∧ x.2.size = d.size ∧ Rw F H2 v x.2 ∧ kv v h H2 ∧ insInner lt a x.1 x.2 = insInner lt a i dk) (fun x => x.1) (i, dk) (by dsimp only; try simp only [Pf]) ⟨dM, Nat.le_refl _, hsk, hR, hkv, rfl⟩ ?_
  rintro ⟨j, dj⟩ H2 ⟨haj, hji, hsj, hR2, hkv2, hI⟩
  dsimp only at haj hji hsj hR2 hI ⊢
  have hout : ∀ H3, (j ≤ a ∨ lt dj[j]! dj[j - 1]! = false) → Heap.le H2 H3 → a < i + 1 ∧ i + 1 ≤ b + 1 ∧ dj.size = d.size ∧ Rw F H3 v dj ∧ kv v h H3 ∧ insOuter lt a b (i + 1) dj = insOuter lt a b (a + 1) d := by
    intro H3 hst hle
    refine ⟨oM, oM, hsj, hR2.le hle, hkv2.trans (kv.of_le hle), ?_⟩
    rw [← hO, insOuter_go _ _ _ _ _ hib2, ← hI, insInner_stop _ _ _ _ hst]
  by_cases hja : a < j
  rotate_left
  · have hja' : ((a : Int) < (j : Int)) = False := by rw [eq_iff_iff]; simp; omega
    refine sw2 @hja' @hw ?_
    exact k_loop (i + 1, dj) dM (by dsimp only; try simp only [Pf]) (hout H2 (.inl oM) (Heap.le.refl _))
  have hja' : ((a : Int) < (j : Int)) = True := by rw [eq_iff_iff]; simp; omega
  have hj1 : IntKind.i64.wrap ((j : Int) - 1) = ((j - 1 : Nat) : Int) := by rw [w64 oM oM]; omega
  refine sw2 @hja' @hj1 ?_
  refine hS.less H2 dj j (j - 1) _ hsj hR2 oM oM fun H3 hle3 => ?_
  cases hl : lt dj[j]! dj[j - 1]! with
  | false =>
    refine sw1 @hw ?_
    exact k_loop (i + 1, dj) dM (by dsimp only; try simp only [Pf]) (hout H3 (.inr hl) hle3)
  | true =>
    refine sw1 @hj1 ?_
    refine hS.swap H3 dj j (j - 1) _ hsj (hR2.le hle3) oM oM fun H4 hR4 hk4 => ?_
    refine sw1 @hj1 ?_
    exact k_loop (j - 1, swp dj j (j - 1)) dM (by dsimp only; try simp only [Pf]) ⟨dM, dM, by dsimp only; rw [size_swp]; exact hsj, hR4, (hkv2.trans (kv.of_le hle3)).trans hk4, by rw [← hI, insInner_go lt a j dj hja hl]⟩
end Go.Cw
namespace Go.Cw
open Go Go.Sort Go.Proofs
theorem siftDown_end {lt : Si → Si → Bool} {hi first root : Nat} {d : Array Si} (h : hi ≤ 2 * root + 1) : siftDown lt hi first root d = d := by rw [siftDown, dif_pos oM]
def kid (lt : Si → Si → Bool) (hi first root : Nat) (d : Array Si) : Nat := if 2 * root + 1 + 1 < hi && lt d[first + (2 * root + 1)]! d[first + (2 * root + 1) + 1]! then 2 * root + 2 else 2 * root + 1
theorem siftDown_kid {lt : Si → Si → Bool} {hi first root : Nat} {d : Array Si} (h : ¬ hi ≤ 2 * root + 1) : kid lt hi first root d < hi ∧ root < kid lt hi first root d ∧
    siftDown lt hi first root d = if lt d[first + root]! d[first + kid lt hi first root d]! then siftDown lt hi first (kid lt hi first root d) (swp d (first + root) (first + kid lt hi first root d)) else d := by
  unfold kid
  rw [siftDown, dif_neg oM]
  split
  · rename_i hc
    simp only [Bool.and_eq_true, decide_eq_true_eq] at hc
    refine ⟨oM, oM, ?_⟩
    cases hl : lt d[first + root]! d[first + (2 * root + 2)]! with
    | true => simp [show 2 * root + 2 < hi by omega]
    | false => simp
  · refine ⟨oM, oM, ?_⟩
    cases hl : lt d[first + root]! d[first + (2 * root + 1)]! with
    | true => simp
    | false => simp
def S112 (N : Num) (Γ : Ctx) : Spec := fun args h K => ∃ F v fl fs cl cs lt d, ∃ lo hi first : Nat, args = [.agg #[.func (.func fl) #[] cl, .func (.func fs) #[] cs], .int .i64 lo, .int .i64 hi, .int .i64 first] ∧ So N Γ F v fl fs cl cs lt d.size ∧ Rw F h v d ∧ lo ≤ d.size ∧ first + hi ≤ d.size ∧
  ∀ h', Rw F h' v (siftDown lt hi first lo d) → kv v h h' → K (.tuple #[]) h'
theorem F112_ok {N : Num} {Γ : Ctx} [GoodC Γ] : Sat (S112 N Γ) (SF N Γ F112) := by
  rintro _ h K ⟨F, v, fl, fs, cl, cs, lt, d, lo, hi, first, rfl, hS, hd, hlo, hb, hK⟩
  have hsz := hS.size
  refine i_fun rfl ?_
  simp only [F112, Ze, Nat.reduceSub, Nat.reduceAdd]
  refine sw0 ?_
  refine i_loop (fun x : Nat × Array Si => [some (.agg #[.func (.func fl) #[] cl, .func (.func fs) #[] cs]), some (.int .i64 lo), some (.int .i64 hi), some (.int .i64 first), some (.agg #[.func (.func fl) #[] cl, .func (.func fs) #[] cs]), some (.int .i64 (x.1 : Nat)), none, none, none, none, none, none, none])
    (fun x H => x.1 ≤ d.size ∧ x.2.size = d.size ∧ Rw F H v x.2 ∧ kv v h H ∧ siftDown lt hi first x.1 x.2 = siftDown lt hi first lo d) (fun x => d.size - x.1) (lo, d) (by dsimp only; try simp only [Pf]) ⟨hlo, rfl, hd, kv.refl, rfl⟩ ?_
  rintro ⟨r, dk⟩ H ⟨hr, hsk, hR, hkv, hP⟩
  dsimp only at hr hsk hR hP ⊢
  have hw1 : IntKind.i64.wrap (IntKind.i64.wrap (2 * (r : Int)) + 1) = ((2 * r + 1 : Nat) : Int) := by rw [w64 (n := 2 * (r : Int)) oM oM, w64 oM oM]; omega
  refine sw1 @hw1 ?_
  refine i_cond (fun c => ?_) (fun c => ?_)
  · refine sw0 ?_
    refine hK H ?_ hkv
    rw [← hP, siftDown_end oM]
    exact hR
  have hc1 : ¬ hi ≤ 2 * r + 1 := oM
  obtain ⟨k1, k2, k3⟩ := siftDown_kid (lt := lt) (first := first) (d := dk) hc1
  have hw2 : IntKind.i64.wrap (((2 * r + 1 : Nat) : Int) + 1) = ((2 * r + 1 + 1 : Nat) : Int) := by rw [w64 oM oM]; omega
  have hw3 : IntKind.i64.wrap ((first : Int) + ((2 * r + 1 : Nat) : Int)) = ((first + (2 * r + 1) : Nat) : Int) := by rw [w64 oM oM]; omega
  have hw4 : IntKind.i64.wrap (((first + (2 * r + 1) : Nat) : Int) + 1) = ((first + (2 * r + 1) + 1 : Nat) : Int) := by rw [w64 oM oM]; omega
  refine sw1 @hw2 ?_
  have hgo : ∀ (H2 : Heap) (env : Env), (kid lt hi first r dk = 2 * r + 2 ∨ kid lt hi first r dk = 2 * r + 1) → Heap.le H H2 → Rw F H2 v dk ∧ kv v h H2 := fun H2 env _ hl => ⟨hR.le hl, hkv.trans (kv.of_le hl)⟩
  by_cases hc2 : 2 * r + 1 + 1 < hi
  rotate_left
  · have hc2' : (((2 * r + 1 + 1 : Nat) : Int) < (hi : Int)) = False := by rw [eq_iff_iff]; simp; omega
    have hkd : kid lt hi first r dk = 2 * r + 1 := by unfold kid; rw [if_neg (by simp; omega)]
    rw [hkd] at k1 k2 k3
    have hw5 : IntKind.i64.wrap ((first : Int) + (r : Int)) = ((first + r : Nat) : Int) := by rw [w64 oM oM]; omega
    refine sw3 @hc2' @hw3 @hw5 ?_
    refine hS.less H dk (first + r) (first + (2 * r + 1)) _ hsk hR oM oM fun H3 hle3 => ?_
    cases hl : lt dk[first + r]! dk[first + (2 * r + 1)]! with
    | false =>
      rw [hl] at k3
      refine sw0 ?_
      refine hK H3 ?_ (hkv.trans (kv.of_le hle3))
      rw [← hP, k3]; exact hR.le hle3
    | true =>
      rw [hl, if_pos rfl] at k3
      refine sw2 @hw3 @hw5 ?_
      refine hS.swap H3 dk (first + r) (first + (2 * r + 1)) _ hsk (hR.le hle3) oM oM fun H4 hR4 hk4 => ?_
      refine sw0 ?_
      exact k_loop (2 * r + 1, swp dk (first + r) (first + (2 * r + 1))) dM (by dsimp only; try simp only [Pf]) ⟨dM, by dsimp only; rw [size_swp]; exact hsk, hR4, (hkv.trans (kv.of_le hle3)).trans hk4, by rw [← hP, k3]⟩
  have hc2' : (((2 * r + 1 + 1 : Nat) : Int) < (hi : Int)) = True := by rw [eq_iff_iff]; simp; omega
  refine sw3 @hc2' @hw3 @hw4 ?_
  refine hS.less H dk (first + (2 * r + 1)) (first + (2 * r + 1) + 1) _ hsk hR oM oM fun H2 hle2 => ?_
  have hR2 := hR.le hle2
  have hkv2 := hkv.trans (kv.of_le hle2)
  have hw5 : IntKind.i64.wrap ((first : Int) + (r : Int)) = ((first + r : Nat) : Int) := by rw [w64 oM oM]; omega
  have hw6 : IntKind.i64.wrap ((first : Int) + ((2 * r + 1 + 1 : Nat) : Int)) = ((first + (2 * r + 2) : Nat) : Int) := by rw [w64 oM oM]; omega
  cases hl0 : lt dk[first + (2 * r + 1)]! dk[first + (2 * r + 1) + 1]! with
  | false =>
    have hkd : kid lt hi first r dk = 2 * r + 1 := by unfold kid; rw [hl0]; simp
    rw [hkd] at k1 k2 k3
    refine sw2 @hw3 @hw5 ?_
    refine hS.less H2 dk (first + r) (first + (2 * r + 1)) _ hsk hR2 oM oM fun H3 hle3 => ?_
    cases hl : lt dk[first + r]! dk[first + (2 * r + 1)]! with
    | false =>
      rw [hl] at k3
      refine sw0 ?_
      refine hK H3 ?_ (hkv2.trans (kv.of_le hle3))
      rw [← hP, k3]; exact hR2.le hle3
    | true =>
      rw [hl, if_pos rfl] at k3
      refine sw2 @hw3 @hw5 ?_
      refine hS.swap H3 dk (first + r) (first + (2 * r + 1)) _ hsk (hR2.le hle3) oM oM fun H4 hR4 hk4 => ?_
      refine sw0 ?_
      exact k_loop (2 * r + 1, swp dk (first + r) (first + (2 * r + 1))) dM (by dsimp only; try simp only [Pf]) ⟨dM, by dsimp only; rw [size_swp]; exact hsk, hR4, (hkv2.trans (kv.of_le hle3)).trans hk4, by rw [← hP, k3]⟩
  | true =>
    have hkd : kid lt hi first r dk = 2 * r + 2 := by unfold kid; rw [hl0, if_pos (by simp; omega)]
    rw [hkd] at k1 k2 k3
    refine sw3 @hw2 @hw5 @hw6 ?_
    refine hS.less H2 dk (first + r) (first + (2 * r + 2)) _ hsk hR2 oM oM fun H3 hle3 => ?_
    cases hl : lt dk[first + r]! dk[first + (2 * r + 2)]! with
    | false =>
      rw [hl] at k3
      refine sw0 ?_
      refine hK H3 ?_ (hkv2.trans (kv.of_le hle3))
      rw [← hP, k3]; exact hR2.le hle3
    | true =>
      rw [hl, if_pos rfl] at k3
      refine sw2 @hw6 @hw5 ?_
      refine hS.swap H3 dk (first + r) (first + (2 * r + 2)) _ hsk (hR2.le hle3) oM oM fun H4 hR4 hk4 => ?_
      refine sw0 ?_
      exact k_loop (2 * r + 2, swp dk (first + r) (first + (2 * r + 2))) dM (by dsimp only; try simp only [Pf]) ⟨dM, by dsimp only; rw [size_swp]; exact hsk, hR4, (hkv2.trans (kv.of_le hle3)).trans hk4, by rw [← hP, k3]⟩
end Go.Cw
namespace Go.Cw
open Go Go.Sort Go.Proofs
theorem size_siftDown (lt : Si → Si → Bool) (hi first : Nat) : ∀ (n root : Nat) (d : Array Si), hi - root ≤ n → (siftDown lt hi first root d).size = d.size := by
  intro n
  induction n with
  | zero => intro root d h; rw [siftDown_end oM]
  | succ n ih =>
    intro root d h
    by_cases hc : hi ≤ 2 * root + 1
    · rw [siftDown_end hc]
    · obtain ⟨k1, k2, k3⟩ := siftDown_kid (lt := lt) (first := first) (d := d) hc
      rw [k3]
      split
      · rw [ih _ _ oM, size_swp]
      · rfl
def S99 (N : Num) (Γ : Ctx) : Spec := fun args h K => ∃ F v fl fs cl cs lt d, ∃ a b : Nat, args = [.agg #[.func (.func fl) #[] cl, .func (.func fs) #[] cs], .int .i64 a, .int .i64 b] ∧ So N Γ F v fl fs cl cs lt d.size ∧ Rw F h v d ∧ a ≤ b ∧ b ≤ d.size ∧
  ∀ h', Rw F h' v (heapSort lt d a b) → kv v h h' → K (.tuple #[]) h'
theorem F99_ok {N : Num} {Γ : Ctx} [GoodC Γ] (H112 : Sat (S112 N Γ) (Γ 112)) : Sat (S99 N Γ) (SF N Γ F99) := by
  rintro _ h K ⟨F, v, fl, fs, cl, cs, lt, d, a, b, rfl, hS, hd, hab, hb, hK⟩
  have hsz := hS.size
  obtain ⟨n, hn⟩ : ∃ n, n = b - a := ⟨_, rfl⟩
  unfold heapSort at hK
  rw [← hn] at hK
  refine i_fun rfl ?_
  simp only [F99, Ze, Nat.reduceSub, Nat.reduceAdd]
  have hw1 : IntKind.i64.wrap ((b : Int) - a) = (n : Int) := by rw [w64 oM oM]; omega
  have hw2 : IntKind.i64.wrap (Int.tdiv (IntKind.i64.wrap ((n : Int) - 1)) 2) = (((n - 1) / 2 : Nat) : Int) := by
    rw [w64 (n := (n : Int) - 1) oM oM]
    cases n with
    | zero => decide
    | succ m =>
      have : (((m + 1 : Nat) : Int) - 1) = (m : Int) := oM
      rw [this, show Int.tdiv (m : Int) 2 = ((m / 2 : Nat) : Int) from rfl, w64 oM oM]
      simp
  have hw2' : Int.tdiv (IntKind.i64.wrap ((n : Int) - 1)) 2 = (((n - 1) / 2 : Nat) : Int) := by
    rw [w64 (n := (n : Int) - 1) oM oM]
    cases n with
    | zero => decide
    | succ m =>
      have : (((m + 1 : Nat) : Int) - 1) = (m : Int) := oM
      rw [this, show Int.tdiv (m : Int) 2 = ((m / 2 : Nat) : Int) from rfl]
      simp
  have hw2'' : Int.tdiv ((n : Int) - 1) 2 = (((n - 1) / 2 : Nat) : Int) := by rw [w64 (n := (n : Int) - 1) oM oM] at hw2'; exact hw2'
  have hw3 : IntKind.i64.wrap ((n : Int) - 1) = (n : Int) - 1 := by rw [w64 oM oM]
  refine sw3 @hw1 @hw3 @hw2'' ?_
  refine i_meet_blk (fun env H => ∃ dk, dk.size = d.size ∧ Rw F H v dk ∧ kv v h H ∧ dk = heapBuild lt n a ((n - 1) / 2 + 1) d ∧ env = [some (.agg #[.func (.func fl) #[] cl, .func (.func fs) #[] cs]), some (.int .i64 a), some (.int .i64 b), some (.agg #[.func (.func fl) #[] cl, .func (.func fs) #[] cs]), some (.int .i64 a), some (.int .i64 0), some (.int .i64 n), none, none, none, none]) ?_ ?_
  rotate_left
  · refine i_loop (fun x : Nat × Array Si => [some (.agg #[.func (.func fl) #[] cl, .func (.func fs) #[] cs]), some (.int .i64 a), some (.int .i64 b), some (.agg #[.func (.func fl) #[] cl, .func (.func fs) #[] cs]), some (.int .i64 a), some (.int .i64 0), some (.int .i64 n), some (.int .i64 ((x.1 : Int) - 1)), none, none, none])
      (fun x H => x.1 ≤ (n - 1) / 2 + 1 ∧ x.2.size = d.size ∧ Rw F H v x.2 ∧ kv v h H ∧ heapBuild lt n a x.1 x.2 = heapBuild lt n a ((n - 1) / 2 + 1) d) (fun x => x.1) ((n - 1) / 2 + 1, d) (by dsimp only; rw [show ((((n - 1) / 2 + 1 : Nat) : Int) - 1) = (((n - 1) / 2 : Nat) : Int) by omega]; try simp only [Pf]) ⟨Nat.le_refl _, rfl, hd, kv.refl, rfl⟩ ?_
    rintro ⟨k, dk⟩ H ⟨hk, hsk, hR, hkv, hP⟩
    dsimp only at hk hsk hR hP ⊢
    refine sw0 ?_
    refine i_cond (fun c => ?_) (fun c => ?_)
    rotate_left
    · have : k = 0 := oM
      subst this
      refine sw0 ?_
      exact k_meet _ sE ⟨dk, hsk, hR, hkv, by rw [← hP]; rfl, rfl⟩
    obtain ⟨m, rfl⟩ : ∃ m, k = m + 1 := ⟨k - 1, oM⟩
    have hm1 : (((m + 1 : Nat) : Int) - 1) = (m : Int) := oM
    have hw4 : IntKind.i64.wrap ((m : Int) - 1) = (m : Int) - 1 := by rw [w64 oM oM]
    rw [hm1]
    refine sw0 ?_
    refine i_call H112 ⟨F, v, fl, fs, cl, cs, lt, dk, m, n, a, rfl, by rw [hsk]; exact hS, hR, oM, oM, fun H2 hR2 hk2 => ?_⟩
    refine sw1 @hw4 ?_
    exact k_loop (m, siftDown lt n a m dk) dM (by dsimp only; try simp only [Pf]) ⟨dM, by dsimp only; rw [size_siftDown lt n a _ _ _ (Nat.le_refl _)]; exact hsk, hR2, hkv.trans hk2, by rw [← hP]; rfl⟩
  rintro env H ⟨dk, hsk, hR, hkv, hdk, rfl⟩
  rw [← hdk] at hK
  clear hdk
  refine sw1 @hw3 ?_
  refine i_loop (fun x : Nat × Array Si => [some (.agg #[.func (.func fl) #[] cl, .func (.func fs) #[] cs]), some (.int .i64 a), some (.int .i64 b), some (.agg #[.func (.func fl) #[] cl, .func (.func fs) #[] cs]), some (.int .i64 a), some (.int .i64 0), some (.int .i64 n), none, some (.int .i64 ((x.1 : Int) - 1)), none, none])
      (fun x H => x.1 ≤ n ∧ x.2.size = d.size ∧ Rw F H v x.2 ∧ kv v h H ∧ heapPop lt a x.1 x.2 = heapPop lt a n dk) (fun x => x.1) (n, dk) (by dsimp only; try simp only [Pf]) ⟨Nat.le_refl _, hsk, hR, hkv, rfl⟩ ?_
  clear hR hkv
  rintro ⟨k, dj⟩ H ⟨hk, hsj, hR, hkv, hP⟩
  dsimp only at hk hsj hR hP ⊢
  refine sw0 ?_
  refine i_cond (fun c => ?_) (fun c => ?_)
  rotate_left
  · have : k = 0 := oM
    subst this
    refine sw0 ?_
    refine hK H ?_ hkv
    rw [← hP]; exact hR
  obtain ⟨m, rfl⟩ : ∃ m, k = m + 1 := ⟨k - 1, oM⟩
  have hm1 : (((m + 1 : Nat) : Int) - 1) = (m : Int) := oM
  have hw4 : IntKind.i64.wrap ((m : Int) - 1) = (m : Int) - 1 := by rw [w64 oM oM]
  have hw5 : IntKind.i64.wrap ((a : Int) + (m : Int)) = ((a + m : Nat) : Int) := by rw [w64 oM oM]; omega
  rw [hm1]
  refine sw1 @hw5 ?_
  refine hS.swap H dj a (a + m) _ hsj hR oM oM fun H2 hR2 hk2 => ?_
  have hs2 : (swp dj a (a + m)).size = d.size := by rw [size_swp]; exact hsj
  refine sw0 ?_
  refine i_call H112 ⟨F, v, fl, fs, cl, cs, lt, swp dj a (a + m), 0, m, a, rfl, by rw [hs2]; exact hS, hR2, oM, oM, fun H3 hR3 hk3 => ?_⟩
  refine sw1 @hw4 ?_
  exact k_loop (m, siftDown lt m a 0 (swp dj a (a + m))) dM (by dsimp only; try simp only [Pf]) ⟨dM, by dsimp only; rw [size_siftDown lt m a _ _ _ (Nat.le_refl _)]; exact hs2, hR3, (hkv.trans hk2).trans hk3, by rw [← hP]; rfl⟩
def S102 (N : Num) (Γ : Ctx) : Spec := fun args h K => ∃ F v fl fs cl cs lt d, ∃ a b : Nat, args = [.agg #[.func (.func fl) #[] cl, .func (.func fs) #[] cs], .int .i64 a, .int .i64 b] ∧ So N Γ F v fl fs cl cs lt d.size ∧ Rw F h v d ∧ a < b ∧ b ≤ d.size ∧
  ∀ h', Rw F h' v (reverseRange d a b) → kv v h h' → K (.tuple #[]) h'
theorem F102_ok {N : Num} {Γ : Ctx} [GoodC Γ] : Sat (S102 N Γ) (SF N Γ F102) := by
  rintro _ h K ⟨F, v, fl, fs, cl, cs, lt, d, a, b, rfl, hS, hd, hab, hb, hK⟩
  have hsz := hS.size
  unfold reverseRange at hK
  refine i_fun rfl ?_
  simp only [F102, Ze, Nat.reduceSub, Nat.reduceAdd]
  have hw1 : IntKind.i64.wrap ((b : Int) - 1) = ((b - 1 : Nat) : Int) := by rw [w64 oM oM]; omega
  refine sw1 @hw1 ?_
  refine i_loop (fun x : Nat × Nat × Array Si => [some (.agg #[.func (.func fl) #[] cl, .func (.func fs) #[] cs]), some (.int .i64 a), some (.int .i64 b), some (.agg #[.func (.func fl) #[] cl, .func (.func fs) #[] cs]), some (.int .i64 (x.1 : Nat)), some (.int .i64 (x.2.1 : Nat)), none])
      (fun x H => x.1 ≤ b ∧ x.2.1 < b ∧ x.2.2.size = d.size ∧ Rw F H v x.2.2 ∧ kv v h H ∧ reverseLoop x.1 x.2.1 x.2.2 = reverseLoop a (b - 1) d) (fun x => x.2.1 - x.1) (a, b - 1, d) (by dsimp only; try simp only [Pf]) ⟨dM, dM, rfl, hd, kv.refl, rfl⟩ ?_
  rintro ⟨i, j, dk⟩ H ⟨hi, hj, hsk, hR, hkv, hP⟩
  dsimp only at hi hj hsk hR hP ⊢
  refine sw0 ?_
  refine i_cond (fun c => ?_) (fun c => ?_)
  rotate_left
  · refine sw0 ?_
    refine hK H ?_ hkv
    rw [← hP, reverseLoop, if_neg oM]; exact hR
  have hij : i < j := oM
  have hw2 : IntKind.i64.wrap ((i : Int) + 1) = ((i + 1 : Nat) : Int) := by rw [w64 oM oM]; omega
  have hw3 : IntKind.i64.wrap ((j : Int) - 1) = ((j - 1 : Nat) : Int) := by rw [w64 oM oM]; omega
  refine sw0 ?_
  refine hS.swap H dk i j _ hsk hR oM oM fun H2 hR2 hk2 => ?_
  refine sw2 @hw2 @hw3 ?_
  exact k_loop (i + 1, j - 1, swp dk i j) dM (by dsimp only; try simp only [Pf]) ⟨dM, dM, by dsimp only; rw [size_swp]; exact hsk, hR2, hkv.trans hk2, by rw [← hP]; dsimp only; conv => rhs; rw [reverseLoop, if_pos hij]⟩
def kb (b : Nat) (h h' : Heap) : Prop := ∀ x o, h x = some o → x ≠ b → h' x = some o
theorem kb.trans {b : Nat} {h h' h'' : Heap} (a : kb b h h') (c : kb b h' h'') : kb b h h'' := fun x o h1 h2 => c x o (a x o h1 h2) h2
theorem kb.of_le {b : Nat} {h h' : Heap} (a : Heap.le h h') : kb b h h' := fun x o h1 _ => a x o h1
theorem Rw.kb {F h h' : Heap} {v : Value} {d : Array Si} {b : Nat} (a : Rw F h v d) (hF : F b = none) (hv : blkOf v ≠ some b) (hk : kb b h h') : Rw F h' v d := by
  have hle : Heap.le F h' := by
    intro x o hx
    refine hk x o (a.1 x o hx) ?_
    rintro rfl; rw [hF] at hx; cases hx
  refine SlB.own (a.slb.1.same fun x hx => ?_) hle a.slb.2
  cases hh : h x with
  | none => exact absurd hh (a.slb.1.mem hx)
  | some o => exact hk x o hh (by rintro rfl; exact hv hx)
theorem kb.kv {b : Nat} {v : Value} {h h' : Heap} (k : kb b h h') (hn : h b = none) : kv v h h' := fun x o h1 _ => k x o h1 (by rintro rfl; rw [hn] at h1; cases h1)
def S129 (N : Num) (Γ : Ctx) : Spec := fun args h K => ∃ F v fl fs cl cs lt d bs, ∃ a b s : Nat, args = [.agg #[.func (.func fl) #[] cl, .func (.func fs) #[] cs], .int .i64 a, .int .i64 b, .pointer (some ⟨bs, 0, none⟩)] ∧ So N Γ F v fl fs cl cs lt d.size ∧ Rw F h v d ∧ a < d.size ∧ b < d.size ∧
  objAt h ⟨bs, 0, none⟩ [.int .i64 s] ∧ F bs = none ∧ blkOf v ≠ some bs ∧ s ≤ 1000 ∧
  ∀ h', Rw F h' v d → objAt h' ⟨bs, 0, none⟩ [.int .i64 ((order2 lt d a b s).2.2 : Nat)] → kb bs h h' → K (.tuple #[.int .i64 ((order2 lt d a b s).1 : Nat), .int .i64 ((order2 lt d a b s).2.1 : Nat)]) h'
theorem F129_ok {N : Num} {Γ : Ctx} [GoodC Γ] : Sat (S129 N Γ) (SF N Γ F129) := by
  rintro _ h K ⟨F, v, fl, fs, cl, cs, lt, d, bs, a, b, s, rfl, hS, hd, ha, hb, ho, hF, hv, hs, hK⟩
  have hsz := hS.size
  unfold order2 at hK
  refine i_fun rfl ?_
  simp only [F129, Ze, Nat.reduceSub, Nat.reduceAdd]
  refine sw0 ?_
  refine hS.less h d b a _ rfl hd oM oM fun h1 hle1 => ?_
  have ho1 := ho.le hle1
  cases hl : lt d[b]! d[a]! with
  | true =>
    have hc : h1.cell ⟨bs, 0, none⟩ = some (.int .i64 s) := ho1.rules.2.1 (by simp)
    have hw : IntKind.i64.wrap ((s : Int) + 1) = ((s + 1 : Nat) : Int) := by rw [w64 oM oM]; omega
    rw [hl] at hK
    refine sw2 @hc @hw ?_
    refine i_st ho1 0 1 rfl rfl oM (by simp) fun o hob _ => ?_
    have hob2 : objAt (h1.set bs o) ⟨bs, 0, none⟩ [.int .i64 (s + 1 : Nat)] := hob h1 rfl
    have hkb : kb bs h (h1.set bs o) := fun x o' hx hne => by rw [Heap.set_ne hne]; exact hle1 x o' hx
    refine sw0 ?_
    exact hK _ (hd.kb hF hv hkb) hob2 hkb
  | false =>
    rw [hl] at hK
    refine sw0 ?_
    exact hK h1 (hd.le hle1) ho1 (kb.of_le hle1)
theorem order2_rng {lt : Si → Si → Bool} {d : Array Si} {a b s n : Nat} (ha : a < n) (hb : b < n) : (order2 lt d a b s).1 < n ∧ (order2 lt d a b s).2.1 < n ∧ (order2 lt d a b s).2.2 ≤ s + 1 := by
  unfold order2; split <;> (dsimp only; omega)
def S116 (N : Num) (Γ : Ctx) : Spec := fun args h K => ∃ F v fl fs cl cs lt d bs, ∃ a b c s : Nat, args = [.agg #[.func (.func fl) #[] cl, .func (.func fs) #[] cs], .int .i64 a, .int .i64 b, .int .i64 c, .pointer (some ⟨bs, 0, none⟩)] ∧ So N Γ F v fl fs cl cs lt d.size ∧ Rw F h v d ∧ a < d.size ∧ b < d.size ∧ c < d.size ∧
  objAt h ⟨bs, 0, none⟩ [.int .i64 s] ∧ F bs = none ∧ blkOf v ≠ some bs ∧ s ≤ 500 ∧
  ∀ h', Rw F h' v d → objAt h' ⟨bs, 0, none⟩ [.int .i64 ((median lt d a b c s).2 : Nat)] → kb bs h h' → K (.int .i64 ((median lt d a b c s).1 : Nat)) h'
theorem F116_ok {N : Num} {Γ : Ctx} [GoodC Γ] (H129 : Sat (S129 N Γ) (Γ 129)) : Sat (S116 N Γ) (SF N Γ F116) := by
  rintro _ h K ⟨F, v, fl, fs, cl, cs, lt, d, bs, a, b, c, s, rfl, hS, hd, ha, hb, hc, ho, hF, hv, hs, hK⟩
  unfold median at hK
  refine i_fun rfl ?_
  simp only [F116, Ze, Nat.reduceSub, Nat.reduceAdd]
  refine sw0 ?_
  refine i_call H129 ⟨F, v, fl, fs, cl, cs, lt, d, bs, a, b, s, rfl, hS, hd, ha, hb, ho, hF, hv, oM, fun h1 hd1 ho1 k1 => ?_⟩
  have r1 := order2_rng (lt := lt) (d := d) (s := s) ha hb
  generalize order2 lt d a b s = q1 at *
  obtain ⟨x1, y1, s1⟩ := q1
  dsimp only at r1 ho1 hK ⊢
  refine sw0 ?_
  refine i_call H129 ⟨F, v, fl, fs, cl, cs, lt, d, bs, y1, c, s1, rfl, hS, hd1, r1.2.1, hc, ho1, hF, hv, oM, fun h2 hd2 ho2 k2 => ?_⟩
  have r2 := order2_rng (lt := lt) (d := d) (s := s1) r1.2.1 hc
  generalize order2 lt d y1 c s1 = q2 at *
  obtain ⟨x2, y2, s2⟩ := q2
  dsimp only at r2 ho2 hK ⊢
  refine sw0 ?_
  refine i_call H129 ⟨F, v, fl, fs, cl, cs, lt, d, bs, x1, x2, s2, rfl, hS, hd2, r1.1, r2.1, ho2, hF, hv, oM, fun h3 hd3 ho3 k3 => ?_⟩
  generalize order2 lt d x1 x2 s2 = q3 at *
  obtain ⟨x3, y3, s3⟩ := q3
  dsimp only at ho3 hK ⊢
  refine sw0 ?_
  exact hK h3 hd3 ho3 ((k1.trans k2).trans k3)
theorem median_rng {lt : Si → Si → Bool} {d : Array Si} {a b c s n : Nat} (ha : a < n) (hb : b < n) (hc : c < n) : (median lt d a b c s).1 < n ∧ (median lt d a b c s).2 ≤ s + 3 := by
  unfold median
  have r1 := order2_rng (lt := lt) (d := d) (s := s) ha hb
  have r2 := order2_rng (lt := lt) (d := d) (s := (order2 lt d a b s).2.2) r1.2.1 hc
  have r3 := order2_rng (lt := lt) (d := d) (s := (order2 lt d (order2 lt d a b s).2.1 c (order2 lt d a b s).2.2).2.2) r1.1 r2.1
  dsimp only
  omega
def S115 (N : Num) (Γ : Ctx) : Spec := fun args h K => ∃ F v fl fs cl cs lt d bs, ∃ a s : Nat, args = [.agg #[.func (.func fl) #[] cl, .func (.func fs) #[] cs], .int .i64 a, .pointer (some ⟨bs, 0, none⟩)] ∧ So N Γ F v fl fs cl cs lt d.size ∧ Rw F h v d ∧ 1 ≤ a ∧ a + 1 < d.size ∧
  objAt h ⟨bs, 0, none⟩ [.int .i64 s] ∧ F bs = none ∧ blkOf v ≠ some bs ∧ s ≤ 500 ∧
  ∀ h', Rw F h' v d → objAt h' ⟨bs, 0, none⟩ [.int .i64 ((medianAdjacent lt d a s).2 : Nat)] → kb bs h h' → K (.int .i64 ((medianAdjacent lt d a s).1 : Nat)) h'
theorem F115_ok {N : Num} {Γ : Ctx} [GoodC Γ] (H116 : Sat (S116 N Γ) (Γ 116)) : Sat (S115 N Γ) (SF N Γ F115) := by
  rintro _ h K ⟨F, v, fl, fs, cl, cs, lt, d, bs, a, s, rfl, hS, hd, ha, hb, ho, hF, hv, hs, hK⟩
  have hsz := hS.size
  unfold medianAdjacent at hK
  refine i_fun rfl ?_
  simp only [F115, Ze, Nat.reduceSub, Nat.reduceAdd]
  have hw1 : IntKind.i64.wrap ((a : Int) - 1) = ((a - 1 : Nat) : Int) := by rw [w64 oM oM]; omega
  have hw2 : IntKind.i64.wrap ((a : Int) + 1) = ((a + 1 : Nat) : Int) := by rw [w64 oM oM]; omega
  refine sw2 @hw1 @hw2 ?_
  refine i_call H116 ⟨F, v, fl, fs, cl, cs, lt, d, bs, a - 1, a, a + 1, s, rfl, hS, hd, oM, oM, oM, ho, hF, hv, hs, fun h1 hd1 ho1 k1 => ?_⟩
  refine sw0 ?_
  exact hK h1 hd1 ho1 k1
end Go.Cw
namespace Go.Cw
open Go Go.Sort Go.Proofs
def hintZ : Hint → Int
  | .unknown => 0
  | .increasing => 1
  | .decreasing => 2
def rawP (lt : Si → Si → Bool) (d : Array Si) (l i j k : Nat) : Nat × Nat := (if l ≥ 8 then (if l ≥ 50 then median lt d (medianAdjacent lt d i 0).1 (medianAdjacent lt d j (medianAdjacent lt d i 0).2).1 (medianAdjacent lt d k (medianAdjacent lt d j (medianAdjacent lt d i 0).2).2).1 (medianAdjacent lt d k (medianAdjacent lt d j (medianAdjacent lt d i 0).2).2).2 else median lt d i j k 0) else (j, 0) : Nat × Nat)
theorem cp_eq {lt : Si → Si → Bool} {d : Array Si} {a b l i j k : Nat} (hl : l = b - a) (hi : i = a + l / 4 * 1) (hj : j = a + l / 4 * 2) (hk : k = a + l / 4 * 3) :
    choosePivot lt d a b = ((rawP lt d l i j k).1, if (rawP lt d l i j k).2 = 0 then .increasing else if (rawP lt d l i j k).2 = 12 then .decreasing else .unknown) := by
  subst hl hi hj hk; rfl
def S101 (N : Num) (Γ : Ctx) : Spec := fun args h K => ∃ F v fl fs cl cs lt d, ∃ a b : Nat, args = [.agg #[.func (.func fl) #[] cl, .func (.func fs) #[] cs], .int .i64 a, .int .i64 b] ∧ So N Γ F v fl fs cl cs lt d.size ∧ Rw F h v d ∧ a < b ∧ b ≤ d.size ∧
  ∀ h', Rw F h' v d → kv v h h' → K (.tuple #[.int .i64 ((choosePivot lt d a b).1 : Nat), .int .i64 (hintZ (choosePivot lt d a b).2)]) h'
theorem F101_ok {N : Num} {Γ : Ctx} [GoodC Γ] (H115 : Sat (S115 N Γ) (Γ 115)) (H116 : Sat (S116 N Γ) (Γ 116)) : Sat (S101 N Γ) (SF N Γ F101) := by
  rintro _ h K ⟨F, v, fl, fs, cl, cs, lt, d, a, b, rfl, hS, hd, hab, hb, hK⟩
  have hsz := hS.size
  obtain ⟨l, hl⟩ : ∃ l, l = b - a := ⟨_, rfl⟩
  refine i_fun rfl ?_
  simp only [F101, Ze, Nat.reduceSub, Nat.reduceAdd]
  have hw1 : IntKind.i64.wrap ((b : Int) - a) = (l : Int) := by rw [w64 oM oM]; omega
  have hq : Int.tdiv (l : Int) 4 = ((l / 4 : Nat) : Int) := rfl
  refine sw1 @hw1 ?_
  refine i_newO fun b7 h1 hle1 hb7 ho => ?_
  have ho1 : objAt h1 ⟨b7, 0, none⟩ [.int .i64 (0 : Nat)] := ho.le (fr_le _ _)
  have hF7 : F b7 = none := le_none hd.1 b7 hb7
  have hv7 : blkOf v ≠ some b7 := fun e => hd.slb.1.mem e hb7
  have hd1 := hd.le hle1
  obtain ⟨i, hi⟩ : ∃ i, i = a + l / 4 * 1 := ⟨_, rfl⟩
  obtain ⟨j, hj⟩ : ∃ j, j = a + l / 4 * 2 := ⟨_, rfl⟩
  obtain ⟨k, hk⟩ : ∃ k, k = a + l / 4 * 3 := ⟨_, rfl⟩
  rw [cp_eq hl hi hj hk] at hK
  have hwi : IntKind.i64.wrap ((a : Int) + IntKind.i64.wrap (((l / 4 : Nat) : Int) * 1)) = (i : Int) := by rw [w64 (n := ((l / 4 : Nat) : Int) * 1) oM oM, w64 oM oM]; omega
  have hwj : IntKind.i64.wrap ((a : Int) + IntKind.i64.wrap (((l / 4 : Nat) : Int) * 2)) = (j : Int) := by rw [w64 (n := ((l / 4 : Nat) : Int) * 2) oM oM, w64 oM oM]; omega
  have hwk : IntKind.i64.wrap ((a : Int) + IntKind.i64.wrap (((l / 4 : Nat) : Int) * 3)) = (k : Int) := by rw [w64 (n := ((l / 4 : Nat) : Int) * 3) oM oM, w64 oM oM]; omega
  have hwq : IntKind.i64.wrap ((l / 4 : Nat) : Int) = ((l / 4 : Nat) : Int) := w64 oM oM
  have hi' : a + l / 4 = i := oM
  have hj' : a + l / 4 * 2 = j := oM
  have hk' : a + l / 4 * 3 = k := oM
  refine sw5 @hq @hwq @hwi @hwj @hwk ?_
  simp only [hi', hj', hk']
  generalize hr : rawP lt d l i j k = r at *
  unfold rawP at hr
  refine i_meet_cond (fun env H => Rw F H v d ∧ kb b7 h1 H ∧ objAt H ⟨b7, 0, none⟩ [.int .i64 (r.2 : Nat)] ∧ env = [some (.agg #[.func (.func fl) #[] cl, .func (.func fs) #[] cs]), some (.int .i64 a), some (.int .i64 b), some (.agg #[.func (.func fl) #[] cl, .func (.func fs) #[] cs]), some (.int .i64 0), some (.int .i64 0), some (.int .i64 l), some (.pointer (some ⟨b7, 0, none⟩)), none, some (.int .i64 (r.1 : Nat)), none, none, none, none, none, none, none, none, none, none]) ?_ ?_
  rotate_left
  · refine i_cond (fun c1 => ?_) (fun c1 => ?_)
    rotate_left
    · rw [if_neg oM] at hr
      subst hr
      refine sw0 ?_
      exact k_meet _ sE ⟨hd1, fun x o h _ => h, ho1, rfl⟩
    rw [if_pos oM] at hr
    refine sw0 ?_
    by_cases h50 : l ≥ 50
    · have h50' : ((50 : Int) ≤ (l : Int)) = True := by rw [eq_iff_iff]; simp; omega
      rw [if_pos h50] at hr
      refine sw1 @h50' ?_
      refine i_call H115 ⟨F, v, fl, fs, cl, cs, lt, d, b7, i, 0, rfl, hS, hd1, oM, oM, ho1, hF7, hv7, oM, fun h2 hd2 ho2 k2 => ?_⟩
      have r1 := median_rng (lt := lt) (d := d) (s := 0) (n := d.size) (show i - 1 < d.size by omega) (show i < d.size by omega) (show i + 1 < d.size by omega)
      change (medianAdjacent lt d i 0).1 < d.size ∧ (medianAdjacent lt d i 0).2 ≤ 0 + 3 at r1
      generalize medianAdjacent lt d i 0 = q1 at *
      refine sw0 ?_
      refine i_call H115 ⟨F, v, fl, fs, cl, cs, lt, d, b7, j, q1.2, rfl, hS, hd2, oM, oM, ho2, hF7, hv7, oM, fun h3 hd3 ho3 k3 => ?_⟩
      have r2 := median_rng (lt := lt) (d := d) (s := q1.2) (n := d.size) (show j - 1 < d.size by omega) (show j < d.size by omega) (show j + 1 < d.size by omega)
      change (medianAdjacent lt d j q1.2).1 < d.size ∧ (medianAdjacent lt d j q1.2).2 ≤ q1.2 + 3 at r2
      generalize medianAdjacent lt d j q1.2 = q2 at *
      refine sw0 ?_
      refine i_call H115 ⟨F, v, fl, fs, cl, cs, lt, d, b7, k, q2.2, rfl, hS, hd3, oM, oM, ho3, hF7, hv7, oM, fun h4 hd4 ho4 k4 => ?_⟩
      have r3 := median_rng (lt := lt) (d := d) (s := q2.2) (n := d.size) (show k - 1 < d.size by omega) (show k < d.size by omega) (show k + 1 < d.size by omega)
      change (medianAdjacent lt d k q2.2).1 < d.size ∧ (medianAdjacent lt d k q2.2).2 ≤ q2.2 + 3 at r3
      generalize medianAdjacent lt d k q2.2 = q3 at *
      refine sw0 ?_
      refine i_call H116 ⟨F, v, fl, fs, cl, cs, lt, d, b7, q1.1, q2.1, q3.1, q3.2, rfl, hS, hd4, r1.1, r2.1, r3.1, ho4, hF7, hv7, oM, fun h5 hd5 ho5 k5 => ?_⟩
      rw [hr] at ho5 ⊢
      refine sw0 ?_
      exact k_meet _ sE ⟨hd5, ((k2.trans k3).trans k4).trans k5, ho5, rfl⟩
    · have h50' : ((50 : Int) ≤ (l : Int)) = False := by rw [eq_iff_iff]; simp; omega
      rw [if_neg h50] at hr
      refine sw1 @h50' ?_
      refine i_call H116 ⟨F, v, fl, fs, cl, cs, lt, d, b7, i, j, k, 0, rfl, hS, hd1, oM, oM, oM, ho1, hF7, hv7, oM, fun h5 hd5 ho5 k5 => ?_⟩
      rw [hr] at ho5 ⊢
      refine sw0 ?_
      exact k_meet _ sE ⟨hd5, k5, ho5, rfl⟩
  rintro env H ⟨hdH, hkb, hoH, rfl⟩
  have hc : H.cell ⟨b7, 0, none⟩ = some (.int .i64 (r.2 : Nat)) := hoH.rules.2.1 (by simp)
  have hkv : kv v h H := ((kb.of_le hle1).trans hkb).kv hb7
  have hKK := hK H hdH hkv
  refine sw1 @hc ?_
  refine i_cond (fun c1 => ?_) (fun c1 => ?_)
  · rw [if_pos oM] at hKK
    refine sw0 ?_
    exact hKK
  rw [if_neg oM] at hKK
  refine sw0 ?_
  refine i_cond (fun c2 => ?_) (fun c2 => ?_)
  · rw [if_pos oM] at hKK
    refine sw0 ?_
    exact hKK
  · rw [if_neg oM] at hKK
    refine sw0 ?_
    exact hKK
end Go.Cw
namespace Go.Cw
open Go Go.Sort Go.Proofs
theorem scanSorted_rng {lt : Si → Si → Bool} {d : Array Si} {b : Nat} : ∀ (n i : Nat), b - i ≤ n → i ≤ b → i ≤ scanSorted lt d b i ∧ scanSorted lt d b i ≤ b := by
  intro n
  induction n with
  | zero =>
    intro i h hi
    rw [scanSorted_stop _ _ _ _ (.inl oM)]; omega
  | succ n ih =>
    intro i h hi
    by_cases hc : i < b
    · cases hl : lt d[i]! d[i - 1]! with
      | true => rw [scanSorted_stop _ _ _ _ (.inr hl)]; omega
      | false =>
        rw [scanSorted_go _ _ _ _ hc hl]
        have := ih (i + 1) oM oM
        omega
    · rw [scanSorted_stop _ _ _ _ (.inl hc)]; omega
def piDown (lt : Si → Si → Bool) (a i : Nat) (d : Array Si) : Array Si := if i - a ≥ 2 then shiftDown lt (i - 1) d else d
def piUp (lt : Si → Si → Bool) (b i : Nat) (d : Array Si) : Array Si := if b - i ≥ 2 then shiftUp lt b (i + 1) d else d
theorem pIns_succ (lt : Si → Si → Bool) (a b s i : Nat) (d : Array Si) : partialIns lt a b (s + 1) i d =
    if scanSorted lt d b i = b then (d, true) else if b - a < 50 then (d, false) else
      partialIns lt a b s (scanSorted lt d b i) (piUp lt b (scanSorted lt d b i) (piDown lt a (scanSorted lt d b i) (swp d (scanSorted lt d b i) (scanSorted lt d b i - 1)))) := by
  rw [partialIns]; rfl
def S103 (N : Num) (Γ : Ctx) : Spec := fun args h K => ∃ F v fl fs cl cs lt d, ∃ a b : Nat, args = [.agg #[.func (.func fl) #[] cl, .func (.func fs) #[] cs], .int .i64 a, .int .i64 b] ∧ So N Γ F v fl fs cl cs lt d.size ∧ Rw F h v d ∧ a < b ∧ b ≤ d.size ∧
  ∀ h', Rw F h' v (partialInsertionSort lt d a b).1 → kv v h h' → K (.bool (partialInsertionSort lt d a b).2) h'
theorem F103_ok {N : Num} {Γ : Ctx} [GoodC Γ] : Sat (S103 N Γ) (SF N Γ F103) := by
  rintro _ h K ⟨F, v, fl, fs, cl, cs, lt, d, a, b, rfl, hS, hd, hab, hb, hK⟩
  have hsz := hS.size
  unfold partialInsertionSort at hK
  refine i_fun rfl ?_
  simp only [F103, Ze, Nat.reduceSub, Nat.reduceAdd]
  have hwa : IntKind.i64.wrap ((a : Int) + 1) = ((a + 1 : Nat) : Int) := by rw [w64 oM oM]; omega
  have hwba : IntKind.i64.wrap ((b : Int) - a) = ((b - a : Nat) : Int) := by rw [w64 oM oM]; omega
  refine sw1 @hwa ?_
  refine i_loop (fun x : Nat × Nat × Array Si => [some (.agg #[.func (.func fl) #[] cl, .func (.func fs) #[] cs]), some (.int .i64 a), some (.int .i64 b), some (.agg #[.func (.func fl) #[] cl, .func (.func fs) #[] cs]), none, some (.int .i64 (x.2.1 : Nat)), some (.int .i64 (x.1 : Nat)), none, none, none, none, none, none, none, none, none, none, none, none, none, none, none, none])
    (fun x H => x.1 ≤ 5 ∧ a < x.2.1 ∧ x.2.1 ≤ b ∧ x.2.2.size = d.size ∧ Rw F H v x.2.2 ∧ kv v h H ∧ partialIns lt a b (5 - x.1) x.2.1 x.2.2 = partialIns lt a b 5 (a + 1) d) (fun x => 5 - x.1) (0, a + 1, d) (by dsimp only; try simp only [Pf]; rfl) ⟨dM, dM, dM, rfl, hd, kv.refl, rfl⟩ ?_
  rintro ⟨st, i, dk⟩ H ⟨hst, hai, hib, hsk, hR, hkv, hP⟩
  dsimp only at hst hai hib hsk hR hP ⊢
  have hws : IntKind.i64.wrap ((st : Int) + 1) = ((st + 1 : Nat) : Int) := by rw [w64 oM oM]; omega
  refine sw0 ?_
  refine i_cond (fun c => ?_) (fun c => ?_)
  rotate_left
  · have : st = 5 := oM
    subst this
    rw [show 5 - 5 = 0 from rfl, partialIns] at hP
    rw [← hP] at hK
    refine sw0 ?_
    exact hK H hR hkv
  obtain ⟨s', hs'⟩ : ∃ s', 5 - st = s' + 1 := ⟨4 - st, oM⟩
  rw [hs', pIns_succ] at hP
  have hrng := scanSorted_rng (lt := lt) (d := dk) (b := b) (b - i) i (Nat.le_refl _) hib
  generalize hq : scanSorted lt dk b i = q at *
  refine sw0 ?_
  refine i_meet_blk (fun env H2 => Heap.le H H2 ∧ env = [some (.agg #[.func (.func fl) #[] cl, .func (.func fs) #[] cs]), some (.int .i64 a), some (.int .i64 b), some (.agg #[.func (.func fl) #[] cl, .func (.func fs) #[] cs]), none, some (.int .i64 (q : Nat)), some (.int .i64 (st : Nat)), none, none, none, none, none, none, none, none, none, none, none, none, none, none, none, none]) ?_ ?_
  rotate_left
  · refine i_loop (fun x : Nat => [some (.agg #[.func (.func fl) #[] cl, .func (.func fs) #[] cs]), some (.int .i64 a), some (.int .i64 b), some (.agg #[.func (.func fl) #[] cl, .func (.func fs) #[] cs]), none, some (.int .i64 (x : Nat)), some (.int .i64 (st : Nat)), none, none, none, none, none, none, none, none, none, none, none, none, none, none, none, none])
      (fun x H2 => i ≤ x ∧ x ≤ b ∧ Heap.le H H2 ∧ scanSorted lt dk b x = q) (fun x => b - x) i sE ⟨Nat.le_refl _, hib, Heap.le.refl H, hq⟩ ?_
    rintro x H2 ⟨hx1, hx2, hle, hxq⟩
    have hwx : IntKind.i64.wrap ((x : Int) + 1) = ((x + 1 : Nat) : Int) := by rw [w64 oM oM]; omega
    have hwx1 : IntKind.i64.wrap ((x : Int) - 1) = ((x - 1 : Nat) : Int) := by rw [w64 oM oM]; omega
    by_cases hxb : x < b
    rotate_left
    · have hxb' : ((x : Int) < (b : Int)) = False := by rw [eq_iff_iff]; simp; omega
      rw [scanSorted_stop _ _ _ _ (.inl hxb)] at hxq
      subst hxq
      refine sw1 @hxb' ?_
      exact k_meet _ sE ⟨hle, rfl⟩
    have hxb' : ((x : Int) < (b : Int)) = True := by rw [eq_iff_iff]; simp; omega
    refine sw2 @hxb' @hwx1 ?_
    refine hS.less H2 dk x (x - 1) _ hsk (hR.le hle) oM oM fun H3 hle3 => ?_
    cases hl : lt dk[x]! dk[x - 1]! with
    | true =>
      rw [scanSorted_stop _ _ _ _ (.inr hl)] at hxq
      subst hxq
      refine sw0 ?_
      exact k_meet _ sE ⟨hle.trans hle3, rfl⟩
    | false =>
      rw [scanSorted_go _ _ _ _ hxb hl] at hxq
      refine sw1 @hwx ?_
      exact k_loop (x + 1) oM sE ⟨oM, oM, hle.trans hle3, hxq⟩
  rintro env H2 ⟨hle2, rfl⟩
  have hR2 := hR.le hle2
  have hkv2 := hkv.trans (kv.of_le hle2)
  refine sw0 ?_
  refine i_cond (fun c1 => ?_) (fun c1 => ?_)
  · rw [if_pos oM] at hP
    rw [← hP] at hK
    refine sw0 ?_
    exact hK H2 hR2 hkv2
  rw [if_neg oM] at hP
  refine sw1 @hwba ?_
  refine i_cond (fun c3 => ?_) (fun c3 => ?_)
  · rw [if_pos oM] at hP
    rw [← hP] at hK
    refine sw0 ?_
    exact hK H2 hR2 hkv2
  rw [if_neg oM] at hP
  have hq1 : a < q := oM
  have hqb : q < b := oM
  have hwq1 : IntKind.i64.wrap ((q : Int) - 1) = ((q - 1 : Nat) : Int) := by rw [w64 oM oM]; omega
  have hwq2 : IntKind.i64.wrap ((q : Int) + 1) = ((q + 1 : Nat) : Int) := by rw [w64 oM oM]; omega
  have hwqa : IntKind.i64.wrap ((q : Int) - a) = ((q - a : Nat) : Int) := by rw [w64 oM oM]; omega
  have hwbq : IntKind.i64.wrap ((b : Int) - q) = ((b - q : Nat) : Int) := by rw [w64 oM oM]; omega
  refine sw1 @hwq1 ?_
  refine hS.swap H2 dk q (q - 1) _ hsk hR2 oM oM fun H3 hR3 hk3 => ?_
  have hkv3 := hkv2.trans hk3
  have hsk3 : (swp dk q (q - 1)).size = d.size := by rw [size_swp]; exact hsk
  generalize swp dk q (q - 1) = d3 at *
  clear hR hR2 hkv hkv2 hk3 hle2 hsk
  refine sw1 @hwqa ?_
  refine i_meet_cond (fun env H => ∃ d4, d4 = piDown lt a q d3 ∧ d4.size = d.size ∧ Rw F H v d4 ∧ kv v h H ∧ env = [some (.agg #[.func (.func fl) #[] cl, .func (.func fs) #[] cs]), some (.int .i64 a), some (.int .i64 b), some (.agg #[.func (.func fl) #[] cl, .func (.func fs) #[] cs]), none, some (.int .i64 (q : Nat)), some (.int .i64 (st : Nat)), none, none, none, none, none, none, none, none, none, none, none, none, none, none, none, none]) ?_ ?_
  rotate_left
  · unfold piDown
    refine i_cond (fun c4 => ?_) (fun c4 => ?_)
    rotate_left
    · refine sw0 ?_
      exact k_meet _ sE ⟨d3, by rw [if_neg oM], hsk3, hR3, hkv3, rfl⟩
    rw [if_pos oM]
    refine sw1 @hwq1 ?_
    refine i_loop (fun x : Nat × Array Si => [some (.agg #[.func (.func fl) #[] cl, .func (.func fs) #[] cs]), some (.int .i64 a), some (.int .i64 b), some (.agg #[.func (.func fl) #[] cl, .func (.func fs) #[] cs]), none, some (.int .i64 (q : Nat)), some (.int .i64 (st : Nat)), some (.int .i64 (x.1 : Nat)), none, none, none, none, none, none, none, none, none, none, none, none, none, none, none])
      (fun x H => x.1 ≤ q - 1 ∧ x.2.size = d.size ∧ Rw F H v x.2 ∧ kv v h H ∧ shiftDown lt x.1 x.2 = shiftDown lt (q - 1) d3) (fun x => x.1) (q - 1, d3) (by dsimp only; try simp only [Pf]) ⟨Nat.le_refl _, hsk3, hR3, hkv3, rfl⟩ ?_
    rintro ⟨x, dx⟩ H5 ⟨hx, hsx, hRx, hkx, hPx⟩
    dsimp only at hx hsx hRx hPx ⊢
    have hwx1 : x ≠ 0 → IntKind.i64.wrap ((x : Int) - 1) = ((x - 1 : Nat) : Int) := fun h0 => by rw [w64 oM oM]; omega
    refine sw0 ?_
    refine i_cond (fun c5 => ?_) (fun c5 => ?_)
    rotate_left
    · refine sw0 ?_
      refine k_meet _ sE ⟨dx, ?_, hsx, hRx, hkx, rfl⟩
      rw [← hPx, shiftDown_stop _ _ _ (.inl oM)]
    have hw0 := hwx1 oM
    refine sw1 @hw0 ?_
    refine hS.less H5 dx x (x - 1) _ hsx hRx oM oM fun H6 hle6 => ?_
    cases hl : lt dx[x]! dx[x - 1]! with
    | false =>
      refine sw0 ?_
      refine k_meet _ sE ⟨dx, ?_, hsx, hRx.le hle6, hkx.trans (kv.of_le hle6), rfl⟩
      rw [← hPx, shiftDown_stop _ _ _ (.inr hl)]
    | true =>
      refine sw1 @hw0 ?_
      refine hS.swap H6 dx x (x - 1) _ hsx (hRx.le hle6) oM oM fun H7 hR7 hk7 => ?_
      refine sw1 @hw0 ?_
      exact k_loop (x - 1, swp dx x (x - 1)) dM (by dsimp only; try simp only [Pf]) ⟨dM, by dsimp only; rw [size_swp]; exact hsx, hR7, (hkx.trans (kv.of_le hle6)).trans hk7, by rw [← hPx]; dsimp only; rw [shiftDown_go lt x dx oM hl]⟩
  clear hR3 hkv3 hsk3
  rintro env H4 ⟨d4, hd4, hs4, hR4, hkv4, rfl⟩
  rw [← hd4] at hP
  clear hd4
  refine sw1 @hwbq ?_
  refine i_meet_cond_blk (fun env H => ∃ d5, d5 = piUp lt b q d4 ∧ d5.size = d.size ∧ Rw F H v d5 ∧ kv v h H ∧ env = [some (.agg #[.func (.func fl) #[] cl, .func (.func fs) #[] cs]), some (.int .i64 a), some (.int .i64 b), some (.agg #[.func (.func fl) #[] cl, .func (.func fs) #[] cs]), none, some (.int .i64 (q : Nat)), some (.int .i64 (st : Nat)), none, none, none, none, none, none, none, none, none, none, none, none, none, none, none, none]) ?_ ?_
  rotate_left
  · unfold piUp
    refine i_cond (fun c4 => ?_) (fun c4 => ?_)
    rotate_left
    · refine sw0 ?_
      exact k_meet _ sE ⟨d4, by rw [if_neg oM], hs4, hR4, hkv4, rfl⟩
    rw [if_pos oM]
    refine sw1 @hwq2 ?_
    refine i_loop (fun x : Nat × Array Si => [some (.agg #[.func (.func fl) #[] cl, .func (.func fs) #[] cs]), some (.int .i64 a), some (.int .i64 b), some (.agg #[.func (.func fl) #[] cl, .func (.func fs) #[] cs]), none, some (.int .i64 (q : Nat)), some (.int .i64 (st : Nat)), none, some (.int .i64 (x.1 : Nat)), none, none, none, none, none, none, none, none, none, none, none, none, none, none])
      (fun x H => q + 1 ≤ x.1 ∧ x.1 ≤ b ∧ x.2.size = d.size ∧ Rw F H v x.2 ∧ kv v h H ∧ shiftUp lt b x.1 x.2 = shiftUp lt b (q + 1) d4) (fun x => b - x.1) (q + 1, d4) (by dsimp only; try simp only [Pf]) ⟨Nat.le_refl _, dM, hs4, hR4, hkv4, rfl⟩ ?_
    rintro ⟨x, dx⟩ H5 ⟨hx0, hx, hsx, hRx, hkx, hPx⟩
    dsimp only at hx0 hx hsx hRx hPx ⊢
    have hw0 : IntKind.i64.wrap ((x : Int) - 1) = ((x - 1 : Nat) : Int) := by rw [w64 oM oM]; omega
    have hw9 : IntKind.i64.wrap ((x : Int) + 1) = ((x + 1 : Nat) : Int) := by rw [w64 oM oM]; omega
    refine sw0 ?_
    refine i_cond (fun c5 => ?_) (fun c5 => ?_)
    rotate_left
    · refine sw0 ?_
      refine k_meet _ sE ⟨dx, ?_, hsx, hRx, hkx, rfl⟩
      rw [← hPx, shiftUp_stop _ _ _ _ (.inl oM)]
    refine sw1 @hw0 ?_
    refine hS.less H5 dx x (x - 1) _ hsx hRx oM oM fun H6 hle6 => ?_
    cases hl : lt dx[x]! dx[x - 1]! with
    | false =>
      refine sw0 ?_
      refine k_meet _ sE ⟨dx, ?_, hsx, hRx.le hle6, hkx.trans (kv.of_le hle6), rfl⟩
      rw [← hPx, shiftUp_stop _ _ _ _ (.inr hl)]
    | true =>
      refine sw1 @hw0 ?_
      refine hS.swap H6 dx x (x - 1) _ hsx (hRx.le hle6) oM oM fun H7 hR7 hk7 => ?_
      refine sw1 @hw9 ?_
      exact k_loop (x + 1, swp dx x (x - 1)) dM (by dsimp only; try simp only [Pf]) ⟨dM, dM, by dsimp only; rw [size_swp]; exact hsx, hR7, (hkx.trans (kv.of_le hle6)).trans hk7, by rw [← hPx]; dsimp only; rw [shiftUp_go lt b x dx oM hl]⟩
  clear hR4 hkv4 hs4
  rintro env H5 ⟨d5, hd5, hs5, hR5, hkv5, rfl⟩
  rw [← hd5] at hP
  clear hd5
  refine sw1 @hws ?_
  refine k_loop (st + 1, q, d5) dM (by dsimp only; try simp only [Pf]) ⟨dM, dM, dM, hs5, hR5, hkv5, ?_⟩
  dsimp only
  rw [show 5 - (st + 1) = s' by omega]; exact hP
end Go.Cw
namespace Go.Cw
open Go Go.Sort Go.Proofs
theorem scanUp_rng {p : Si → Bool} {d : Array Si} {j : Nat} : ∀ (n i : Nat), j + 1 - i ≤ n → i ≤ scanUp p d j i ∧ (scanUp p d j i ≤ j + 1 ∨ scanUp p d j i = i) := by
  intro n
  induction n with
  | zero =>
    intro i h
    rw [scanUp_end _ _ _ _ (.inl oM)]; omega
  | succ n ih =>
    intro i h
    by_cases hc : i ≤ j
    · cases hl : p d[i]! with
      | false => rw [scanUp_end _ _ _ _ (.inr hl)]; omega
      | true =>
        rw [scanUp_go _ _ _ _ hc hl]
        have := ih (i + 1) oM
        omega
    · rw [scanUp_end _ _ _ _ (.inl hc)]; omega
theorem scanDown_rng {p : Si → Bool} {d : Array Si} {i : Nat} : ∀ (n j : Nat), j ≤ n → scanDown p d i j ≤ j ∧ (i ≤ scanDown p d i j + 1 ∨ scanDown p d i j = j) := by
  intro n
  induction n with
  | zero =>
    intro j h
    obtain rfl : j = 0 := oM
    rw [scanDown]; omega
  | succ n ih =>
    intro j h
    by_cases hc : i ≤ j ∧ 0 < j
    · cases hl : p d[j]! with
      | false => rw [scanDown_end _ _ _ _ (.inr hl)]; omega
      | true =>
        rw [scanDown_go _ _ _ _ hc.1 hc.2 hl]
        have := ih (j - 1) oM
        omega
    · by_cases h0 : j = 0
      · subst h0; rw [scanDown]; omega
      · rw [scanDown_end _ _ _ _ (.inl oM)]; omega
def S104 (N : Num) (Γ : Ctx) : Spec := fun args h K => ∃ F v fl fs cl cs lt d, ∃ a b pivot : Nat, args = [.agg #[.func (.func fl) #[] cl, .func (.func fs) #[] cs], .int .i64 a, .int .i64 b, .int .i64 pivot] ∧ So N Γ F v fl fs cl cs lt d.size ∧ Rw F h v d ∧ a < b ∧ b ≤ d.size ∧ pivot < d.size ∧
  ∀ h', Rw F h' v (partitionEqual lt d a b pivot).2 → kv v h h' → K (.int .i64 ((partitionEqual lt d a b pivot).1 : Nat)) h'
theorem F104_ok {N : Num} {Γ : Ctx} [GoodC Γ] : Sat (S104 N Γ) (SF N Γ F104) := by
  rintro _ h K ⟨F, v, fl, fs, cl, cs, lt, d, a, b, pivot, rfl, hS, hd, hab, hb, hpv, hK⟩
  have hsz := hS.size
  unfold partitionEqual at hK
  refine i_fun rfl ?_
  simp only [F104, Ze, Nat.reduceSub, Nat.reduceAdd]
  have hwa : IntKind.i64.wrap ((a : Int) + 1) = ((a + 1 : Nat) : Int) := by rw [w64 oM oM]; omega
  have hwb : IntKind.i64.wrap ((b : Int) - 1) = ((b - 1 : Nat) : Int) := by rw [w64 oM oM]; omega
  refine sw0 ?_
  refine hS.swap h d a pivot _ rfl hd oM oM fun h1 hR1 hk1 => ?_
  have hs1 : (swp d a pivot).size = d.size := size_swp _ _ _
  generalize swp d a pivot = d1 at *
  refine sw2 @hwa @hwb ?_
  refine i_loop (fun x : Nat × Nat × Array Si => [some (.agg #[.func (.func fl) #[] cl, .func (.func fs) #[] cs]), some (.int .i64 a), some (.int .i64 b), some (.int .i64 pivot), some (.agg #[.func (.func fl) #[] cl, .func (.func fs) #[] cs]), none, some (.int .i64 (x.1 : Nat)), some (.int .i64 (x.2.1 : Nat)), none, none, none, none, none, none, none])
    (fun x H => a < x.1 ∧ x.1 ≤ x.2.1 + 2 ∧ x.2.1 < b ∧ x.2.2.size = d.size ∧ Rw F H v x.2.2 ∧ kv v h H ∧ partEqLoop lt a x.1 x.2.1 x.2.2 = partEqLoop lt a (a + 1) (b - 1) d1) (fun x => x.2.1 + 1 - x.1) (a + 1, b - 1, d1) (by dsimp only; try simp only [Pf]) ⟨dM, dM, dM, hs1, hR1, hk1, rfl⟩ ?_
  rintro ⟨i, j, dk⟩ H ⟨hai, hij, hjb, hsk, hR, hkv, hP⟩
  dsimp only at hai hij hjb hsk hR hP ⊢
  rw [partEqLoop_eq] at hP
  have rU := scanUp_rng (p := fun x => !lt dk[a]! x) (d := dk) (j := j) (j + 1 - i) i (Nat.le_refl _)
  generalize hi2 : scanUp (fun x => !lt dk[a]! x) dk j i = i2 at *
  have rD := scanDown_rng (p := fun x => lt dk[a]! x) (d := dk) (i := i2) j j (Nat.le_refl _)
  generalize hj2 : scanDown (fun x => lt dk[a]! x) dk i2 j = j2 at *
  refine sw0 ?_
  refine i_meet_blk (fun env H2 => Heap.le H H2 ∧ env = [some (.agg #[.func (.func fl) #[] cl, .func (.func fs) #[] cs]), some (.int .i64 a), some (.int .i64 b), some (.int .i64 pivot), some (.agg #[.func (.func fl) #[] cl, .func (.func fs) #[] cs]), none, some (.int .i64 (i2 : Nat)), some (.int .i64 (j : Nat)), none, none, none, none, none, none, none]) ?_ ?_
  rotate_left
  · refine i_loop (fun x : Nat => [some (.agg #[.func (.func fl) #[] cl, .func (.func fs) #[] cs]), some (.int .i64 a), some (.int .i64 b), some (.int .i64 pivot), some (.agg #[.func (.func fl) #[] cl, .func (.func fs) #[] cs]), none, some (.int .i64 (x : Nat)), some (.int .i64 (j : Nat)), none, none, none, none, none, none, none])
        (fun x H2 => i ≤ x ∧ (x ≤ j + 1 ∨ x = i) ∧ Heap.le H H2 ∧ scanUp (fun x => !lt dk[a]! x) dk j x = i2) (fun x => j + 1 - x) i sE ⟨Nat.le_refl _, oM, Heap.le.refl H, hi2⟩ ?_
    rintro x H2 ⟨hx1, hx2, hle, hxq⟩
    have hwx : IntKind.i64.wrap ((x : Int) + 1) = ((x + 1 : Nat) : Int) := by rw [w64 oM oM]; omega
    by_cases hxj : x ≤ j
    rotate_left
    · have hxj' : ((x : Int) ≤ (j : Nat)) = False := by rw [eq_iff_iff]; simp; omega
      rw [scanUp_end _ _ _ _ (.inl hxj)] at hxq
      subst hxq
      refine sw1 @hxj' ?_
      exact k_meet _ sE ⟨hle, rfl⟩
    have hxj' : ((x : Int) ≤ (j : Nat)) = True := by rw [eq_iff_iff]; simp; omega
    refine sw1 @hxj' ?_
    refine hS.less H2 dk a x _ hsk (hR.le hle) oM oM fun H3 hle3 => ?_
    cases hl : lt dk[a]! dk[x]! with
    | false =>
      rw [scanUp_go _ _ _ _ hxj (by simp [hl])] at hxq
      refine sw1 @hwx ?_
      exact k_loop (x + 1) oM sE ⟨oM, oM, hle.trans hle3, hxq⟩
    | true =>
      rw [scanUp_end _ _ _ _ (.inr (by simp [hl]))] at hxq
      subst hxq
      refine sw0 ?_
      exact k_meet _ sE ⟨hle.trans hle3, rfl⟩
  rintro env H2 ⟨hleU, rfl⟩
  refine sw0 ?_
  refine i_meet_blk (fun env H3 => Heap.le H H3 ∧ env = [some (.agg #[.func (.func fl) #[] cl, .func (.func fs) #[] cs]), some (.int .i64 a), some (.int .i64 b), some (.int .i64 pivot), some (.agg #[.func (.func fl) #[] cl, .func (.func fs) #[] cs]), none, some (.int .i64 (i2 : Nat)), some (.int .i64 (j2 : Nat)), none, none, none, none, none, none, none]) ?_ ?_
  rotate_left
  · refine i_loop (fun y : Nat => [some (.agg #[.func (.func fl) #[] cl, .func (.func fs) #[] cs]), some (.int .i64 a), some (.int .i64 b), some (.int .i64 pivot), some (.agg #[.func (.func fl) #[] cl, .func (.func fs) #[] cs]), none, some (.int .i64 (i2 : Nat)), some (.int .i64 (y : Nat)), none, none, none, none, none, none, none])
        (fun y H3 => (i2 ≤ y + 1 ∨ y = j) ∧ y ≤ j ∧ Heap.le H H3 ∧ scanDown (fun x => lt dk[a]! x) dk i2 y = j2) (fun y => y) j sE ⟨oM, Nat.le_refl _, hleU, hj2⟩ ?_
    rintro y H3 ⟨hy1, hy2, hle, hyq⟩
    by_cases hyj : i2 ≤ y
    rotate_left
    · have hyj' : ((i2 : Int) ≤ (y : Int)) = False := by rw [eq_iff_iff]; simp; omega
      rw [scanDown_end _ _ _ _ (.inl hyj)] at hyq
      subst hyq
      refine sw1 @hyj' ?_
      exact k_meet _ sE ⟨hle, rfl⟩
    have hyj' : ((i2 : Int) ≤ (y : Int)) = True := by rw [eq_iff_iff]; simp; omega
    have hwy : IntKind.i64.wrap ((y : Int) - 1) = ((y - 1 : Nat) : Int) := by rw [w64 oM oM]; omega
    refine sw1 @hyj' ?_
    refine hS.less H3 dk a y _ hsk (hR.le hle) oM oM fun H4 hle4 => ?_
    cases hl : lt dk[a]! dk[y]! with
    | false =>
      rw [scanDown_end _ _ _ _ (.inr (by simp [hl]))] at hyq
      subst hyq
      refine sw0 ?_
      exact k_meet _ sE ⟨hle.trans hle4, rfl⟩
    | true =>
      rw [scanDown_go _ _ _ _ hyj oM (by simp [hl])] at hyq
      refine sw1 @hwy ?_
      exact k_loop (y - 1) oM sE ⟨oM, oM, hle.trans hle4, hyq⟩
  rintro env H3 ⟨hleD, rfl⟩
  have hR3 := hR.le hleD
  have hkv3 := hkv.trans (kv.of_le hleD)
  refine sw0 ?_
  refine i_cond (fun c => ?_) (fun c => ?_)
  · rw [if_pos oM] at hP
    rw [← hP] at hK
    refine sw0 ?_
    exact hK H3 hR3 hkv3
  rw [if_neg oM] at hP
  have hw1 : IntKind.i64.wrap ((i2 : Int) + 1) = ((i2 + 1 : Nat) : Int) := by rw [w64 oM oM]; omega
  have hw2 : IntKind.i64.wrap ((j2 : Int) - 1) = ((j2 - 1 : Nat) : Int) := by rw [w64 oM oM]; omega
  refine sw0 ?_
  refine hS.swap H3 dk i2 j2 _ hsk hR3 oM oM fun H5 hR5 hk5 => ?_
  refine sw2 @hw1 @hw2 ?_
  exact k_loop (i2 + 1, j2 - 1, swp dk i2 j2) dM (by dsimp only; try simp only [Pf]) ⟨dM, dM, dM, by dsimp only; rw [size_swp]; exact hsk, hR5, hkv3.trans hk5, hP⟩
theorem part_eq (lt : Si → Si → Bool) (d : Array Si) (a b pivot : Nat) : partition lt d a b pivot =
    if scanUp (fun x => lt x (swp d a pivot)[a]!) (swp d a pivot) (b - 1) (a + 1) > scanDown (fun x => !lt x (swp d a pivot)[a]!) (swp d a pivot) (scanUp (fun x => lt x (swp d a pivot)[a]!) (swp d a pivot) (b - 1) (a + 1)) (b - 1)
    then (scanDown (fun x => !lt x (swp d a pivot)[a]!) (swp d a pivot) (scanUp (fun x => lt x (swp d a pivot)[a]!) (swp d a pivot) (b - 1) (a + 1)) (b - 1), true, swp (swp d a pivot) (scanDown (fun x => !lt x (swp d a pivot)[a]!) (swp d a pivot) (scanUp (fun x => lt x (swp d a pivot)[a]!) (swp d a pivot) (b - 1) (a + 1)) (b - 1)) a)
    else ((partLoop lt a (scanUp (fun x => lt x (swp d a pivot)[a]!) (swp d a pivot) (b - 1) (a + 1) + 1) (scanDown (fun x => !lt x (swp d a pivot)[a]!) (swp d a pivot) (scanUp (fun x => lt x (swp d a pivot)[a]!) (swp d a pivot) (b - 1) (a + 1)) (b - 1) - 1) (swp (swp d a pivot) (scanUp (fun x => lt x (swp d a pivot)[a]!) (swp d a pivot) (b - 1) (a + 1)) (scanDown (fun x => !lt x (swp d a pivot)[a]!) (swp d a pivot) (scanUp (fun x => lt x (swp d a pivot)[a]!) (swp d a pivot) (b - 1) (a + 1)) (b - 1)))).1, false,
      swp (partLoop lt a (scanUp (fun x => lt x (swp d a pivot)[a]!) (swp d a pivot) (b - 1) (a + 1) + 1) (scanDown (fun x => !lt x (swp d a pivot)[a]!) (swp d a pivot) (scanUp (fun x => lt x (swp d a pivot)[a]!) (swp d a pivot) (b - 1) (a + 1)) (b - 1) - 1) (swp (swp d a pivot) (scanUp (fun x => lt x (swp d a pivot)[a]!) (swp d a pivot) (b - 1) (a + 1)) (scanDown (fun x => !lt x (swp d a pivot)[a]!) (swp d a pivot) (scanUp (fun x => lt x (swp d a pivot)[a]!) (swp d a pivot) (b - 1) (a + 1)) (b - 1)))).2
        (partLoop lt a (scanUp (fun x => lt x (swp d a pivot)[a]!) (swp d a pivot) (b - 1) (a + 1) + 1) (scanDown (fun x => !lt x (swp d a pivot)[a]!) (swp d a pivot) (scanUp (fun x => lt x (swp d a pivot)[a]!) (swp d a pivot) (b - 1) (a + 1)) (b - 1) - 1) (swp (swp d a pivot) (scanUp (fun x => lt x (swp d a pivot)[a]!) (swp d a pivot) (b - 1) (a + 1)) (scanDown (fun x => !lt x (swp d a pivot)[a]!) (swp d a pivot) (scanUp (fun x => lt x (swp d a pivot)[a]!) (swp d a pivot) (b - 1) (a + 1)) (b - 1)))).1 a) := by
  rfl
def S105 (N : Num) (Γ : Ctx) : Spec := fun args h K => ∃ F v fl fs cl cs lt d, ∃ a b pivot : Nat, args = [.agg #[.func (.func fl) #[] cl, .func (.func fs) #[] cs], .int .i64 a, .int .i64 b, .int .i64 pivot] ∧ So N Γ F v fl fs cl cs lt d.size ∧ Rw F h v d ∧ a < b ∧ b ≤ d.size ∧ pivot < d.size ∧
  ∀ h', Rw F h' v (partition lt d a b pivot).2.2 → kv v h h' → K (.tuple #[.int .i64 ((partition lt d a b pivot).1 : Nat), .bool (partition lt d a b pivot).2.1]) h'
theorem F105_ok {N : Num} {Γ : Ctx} [GoodC Γ] : Sat (S105 N Γ) (SF N Γ F105) := by
  rintro _ h K ⟨F, v, fl, fs, cl, cs, lt, d, a, b, pivot, rfl, hS, hd, hab, hb, hpv, hK⟩
  have hsz := hS.size
  rw [part_eq] at hK
  refine i_fun rfl ?_
  simp only [F105, Ze, Nat.reduceSub, Nat.reduceAdd]
  have hwa : IntKind.i64.wrap ((a : Int) + 1) = ((a + 1 : Nat) : Int) := by rw [w64 oM oM]; omega
  have hwb : IntKind.i64.wrap ((b : Int) - 1) = ((b - 1 : Nat) : Int) := by rw [w64 oM oM]; omega
  refine sw0 ?_
  refine hS.swap h d a pivot _ rfl hd oM oM fun h1 hR hkv => ?_
  have hsk : (swp d a pivot).size = d.size := size_swp _ _ _
  generalize swp d a pivot = d1 at *
  refine sw2 @hwa @hwb ?_
  obtain ⟨i0, hi0⟩ : ∃ i, i = a + 1 := ⟨_, rfl⟩
  obtain ⟨j0, hj0⟩ : ∃ j, j = b - 1 := ⟨_, rfl⟩
  rw [← hi0, ← hj0] at hK ⊢
  have rU := scanUp_rng (p := fun x => lt x d1[a]!) (d := d1) (j := j0) (j0 + 1 - i0) i0 (Nat.le_refl _)
  generalize hi2 : scanUp (fun x => lt x d1[a]!) d1 j0 i0 = i2 at *
  have rD := scanDown_rng (p := fun x => !lt x d1[a]!) (d := d1) (i := i2) j0 j0 (Nat.le_refl _)
  generalize hj2 : scanDown (fun x => !lt x d1[a]!) d1 i2 j0 = j2 at *
  refine sw0 ?_
  refine i_meet_blk (fun env H2 => Heap.le h1 H2 ∧ env = [some (.agg #[.func (.func fl) #[] cl, .func (.func fs) #[] cs]), some (.int .i64 a), some (.int .i64 b), some (.int .i64 pivot), some (.agg #[.func (.func fl) #[] cl, .func (.func fs) #[] cs]), none, none, some (.int .i64 (i2 : Nat)), some (.int .i64 (j0 : Nat)), none, none, none, none, none, none, none, none, none, none, none, none, none, none]) ?_ ?_
  rotate_left
  · refine i_loop (fun x : Nat => [some (.agg #[.func (.func fl) #[] cl, .func (.func fs) #[] cs]), some (.int .i64 a), some (.int .i64 b), some (.int .i64 pivot), some (.agg #[.func (.func fl) #[] cl, .func (.func fs) #[] cs]), none, none, some (.int .i64 (x : Nat)), some (.int .i64 (j0 : Nat)), none, none, none, none, none, none, none, none, none, none, none, none, none, none])
        (fun x H2 => i0 ≤ x ∧ (x ≤ j0 + 1 ∨ x = i0) ∧ Heap.le h1 H2 ∧ scanUp (fun x => lt x d1[a]!) d1 j0 x = i2) (fun x => j0 + 1 - x) i0 sE ⟨Nat.le_refl _, oM, Heap.le.refl h1, hi2⟩ ?_
    rintro x H2 ⟨hx1, hx2, hle, hxq⟩
    have hwx : IntKind.i64.wrap ((x : Int) + 1) = ((x + 1 : Nat) : Int) := by rw [w64 oM oM]; omega
    by_cases hxj : x ≤ j0
    rotate_left
    · have hxj' : ((x : Int) ≤ (j0 : Nat)) = False := by rw [eq_iff_iff]; simp; omega
      rw [scanUp_end _ _ _ _ (.inl hxj)] at hxq
      subst hxq
      refine sw1 @hxj' ?_
      exact k_meet _ sE ⟨hle, rfl⟩
    have hxj' : ((x : Int) ≤ (j0 : Nat)) = True := by rw [eq_iff_iff]; simp; omega
    refine sw1 @hxj' ?_
    refine hS.less H2 d1 x a _ hsk (hR.le hle) oM oM fun H3 hle3 => ?_
    cases hl : lt d1[x]! d1[a]! with
    | false =>
      rw [scanUp_end _ _ _ _ (.inr (by simp [hl]))] at hxq
      subst hxq
      refine sw0 ?_
      exact k_meet _ sE ⟨hle.trans hle3, rfl⟩
    | true =>
      rw [scanUp_go _ _ _ _ hxj (by simp [hl])] at hxq
      refine sw1 @hwx ?_
      exact k_loop (x + 1) oM sE ⟨oM, oM, hle.trans hle3, hxq⟩
  rintro env H2 ⟨hleU, rfl⟩
  refine sw0 ?_
  refine i_meet_blk (fun env H3 => Heap.le h1 H3 ∧ env = [some (.agg #[.func (.func fl) #[] cl, .func (.func fs) #[] cs]), some (.int .i64 a), some (.int .i64 b), some (.int .i64 pivot), some (.agg #[.func (.func fl) #[] cl, .func (.func fs) #[] cs]), none, none, some (.int .i64 (i2 : Nat)), some (.int .i64 (j2 : Nat)), none, none, none, none, none, none, none, none, none, none, none, none, none, none]) ?_ ?_
  rotate_left
  · refine i_loop (fun y : Nat => [some (.agg #[.func (.func fl) #[] cl, .func (.func fs) #[] cs]), some (.int .i64 a), some (.int .i64 b), some (.int .i64 pivot), some (.agg #[.func (.func fl) #[] cl, .func (.func fs) #[] cs]), none, none, some (.int .i64 (i2 : Nat)), some (.int .i64 (y : Nat)), none, none, none, none, none, none, none, none, none, none, none, none, none, none])
        (fun y H3 => (i2 ≤ y + 1 ∨ y = j0) ∧ y ≤ j0 ∧ Heap.le h1 H3 ∧ scanDown (fun x => !lt x d1[a]!) d1 i2 y = j2) (fun y => y) j0 sE ⟨oM, Nat.le_refl _, hleU, hj2⟩ ?_
    rintro y H3 ⟨hy1, hy2, hle, hyq⟩
    by_cases hyj : i2 ≤ y
    rotate_left
    · have hyj' : ((i2 : Int) ≤ (y : Int)) = False := by rw [eq_iff_iff]; simp; omega
      rw [scanDown_end _ _ _ _ (.inl hyj)] at hyq
      subst hyq
      refine sw1 @hyj' ?_
      exact k_meet _ sE ⟨hle, rfl⟩
    have hyj' : ((i2 : Int) ≤ (y : Int)) = True := by rw [eq_iff_iff]; simp; omega
    have hwy : IntKind.i64.wrap ((y : Int) - 1) = ((y - 1 : Nat) : Int) := by rw [w64 oM oM]; omega
    refine sw1 @hyj' ?_
    refine hS.less H3 d1 y a _ hsk (hR.le hle) oM oM fun H4 hle4 => ?_
    cases hl : lt d1[y]! d1[a]! with
    | false =>
      rw [scanDown_go _ _ _ _ hyj oM (by simp [hl])] at hyq
      refine sw1 @hwy ?_
      exact k_loop (y - 1) oM sE ⟨oM, oM, hle.trans hle4, hyq⟩
    | true =>
      rw [scanDown_end _ _ _ _ (.inr (by simp [hl]))] at hyq
      subst hyq
      refine sw0 ?_
      exact k_meet _ sE ⟨hle.trans hle4, rfl⟩
  rintro env H3 ⟨hleD, rfl⟩
  have hR3 := hR.le hleD
  have hkv3 := hkv.trans (kv.of_le hleD)
  refine sw0 ?_
  refine i_cond (fun c => ?_) (fun c => ?_)
  · rw [if_pos oM] at hK
    refine sw0 ?_
    refine hS.swap H3 d1 j2 a _ hsk hR3 oM oM fun H5 hR5 hk5 => ?_
    refine sw0 ?_
    exact hK H5 hR5 (hkv3.trans hk5)
  rw [if_neg oM] at hK
  have hw1 : IntKind.i64.wrap ((i2 : Int) + 1) = ((i2 + 1 : Nat) : Int) := by rw [w64 oM oM]; omega
  have hw2 : IntKind.i64.wrap ((j2 : Int) - 1) = ((j2 - 1 : Nat) : Int) := by rw [w64 oM oM]; omega
  refine sw0 ?_
  refine hS.swap H3 d1 i2 j2 _ hsk hR3 oM oM fun H5 hR5 hk5 => ?_
  have hs2 : (swp d1 i2 j2).size = d.size := by rw [size_swp]; exact hsk
  have hkv5 := hkv3.trans hk5
  generalize swp d1 i2 j2 = d2 at *
  have hr1 : a < i2 + 1 ∧ i2 + 1 ≤ j2 - 1 + 2 ∧ j2 - 1 < b := oM
  refine sw2 @hw1 @hw2 ?_
  obtain ⟨i1, hi1⟩ : ∃ i, i = i2 + 1 := ⟨_, rfl⟩
  obtain ⟨j1, hj1⟩ : ∃ j, j = j2 - 1 := ⟨_, rfl⟩
  have hij1 : i1 ≤ j1 + 2 := oM
  rw [← hi1, ← hj1] at hK hr1 ⊢
  clear hR3 hkv3 hR hkv hk5 hleU hleD hsk
  clear hi2 hj2 rU rD hi0 hj0 c hw1 hw2 hi1 hj1
  refine i_meet_blk (fun env H => ∃ d9, d9.size = d.size ∧ Rw F H v d9 ∧ kv v h H ∧ d9 = (partLoop lt a i1 j1 d2).2 ∧ (partLoop lt a i1 j1 d2).1 < b ∧ env = [some (.agg #[.func (.func fl) #[] cl, .func (.func fs) #[] cs]), some (.int .i64 a), some (.int .i64 b), some (.int .i64 pivot), some (.agg #[.func (.func fl) #[] cl, .func (.func fs) #[] cs]), none, none, none, some (.int .i64 ((partLoop lt a i1 j1 d2).1 : Nat)), none, none, none, none, none, none, none, none, none, none, none, none, none, none]) ?_ ?_
  rotate_left
  · refine i_loop (fun x : Nat × Nat × Array Si => [some (.agg #[.func (.func fl) #[] cl, .func (.func fs) #[] cs]), some (.int .i64 a), some (.int .i64 b), some (.int .i64 pivot), some (.agg #[.func (.func fl) #[] cl, .func (.func fs) #[] cs]), none, none, some (.int .i64 (x.1 : Nat)), some (.int .i64 (x.2.1 : Nat)), none, none, none, none, none, none, none, none, none, none, none, none, none, none])
      (fun x H => a < x.1 ∧ x.1 ≤ x.2.1 + 2 ∧ x.2.1 < b ∧ x.2.2.size = d.size ∧ Rw F H v x.2.2 ∧ kv v h H ∧ partLoop lt a x.1 x.2.1 x.2.2 = partLoop lt a i1 j1 d2) (fun x => x.2.1 + 1 - x.1) (i1, j1, d2) (by dsimp only; try simp only [Pf]) ⟨dM, dM, dM, hs2, hR5, hkv5, rfl⟩ ?_
    clear hR5 hkv5 hs2 hr1 hij1
    rintro ⟨i, j, dk⟩ H ⟨hai, hij, hjb, hsk, hR, hkv, hP⟩
    dsimp only at hai hij hjb hsk hR hP ⊢
    rw [partLoop_eq] at hP
    have rU := scanUp_rng (p := fun x => lt x dk[a]!) (d := dk) (j := j) (j + 1 - i) i (Nat.le_refl _)
    generalize hi2 : scanUp (fun x => lt x dk[a]!) dk j i = i2 at *
    have rD := scanDown_rng (p := fun x => !lt x dk[a]!) (d := dk) (i := i2) j j (Nat.le_refl _)
    generalize hj2 : scanDown (fun x => !lt x dk[a]!) dk i2 j = j2 at *
    refine sw0 ?_
    refine i_meet_blk (fun env H2 => Heap.le H H2 ∧ env = [some (.agg #[.func (.func fl) #[] cl, .func (.func fs) #[] cs]), some (.int .i64 a), some (.int .i64 b), some (.int .i64 pivot), some (.agg #[.func (.func fl) #[] cl, .func (.func fs) #[] cs]), none, none, some (.int .i64 (i2 : Nat)), some (.int .i64 (j : Nat)), none, none, none, none, none, none, none, none, none, none, none, none, none, none]) ?_ ?_
    rotate_left
    · refine i_loop (fun x : Nat => [some (.agg #[.func (.func fl) #[] cl, .func (.func fs) #[] cs]), some (.int .i64 a), some (.int .i64 b), some (.int .i64 pivot), some (.agg #[.func (.func fl) #[] cl, .func (.func fs) #[] cs]), none, none, some (.int .i64 (x : Nat)), some (.int .i64 (j : Nat)), none, none, none, none, none, none, none, none, none, none, none, none, none, none])
          (fun x H2 => i ≤ x ∧ (x ≤ j + 1 ∨ x = i) ∧ Heap.le H H2 ∧ scanUp (fun x => lt x dk[a]!) dk j x = i2) (fun x => j + 1 - x) i sE ⟨Nat.le_refl _, oM, Heap.le.refl H, hi2⟩ ?_
      rintro x H2 ⟨hx1, hx2, hle, hxq⟩
      have hwx : IntKind.i64.wrap ((x : Int) + 1) = ((x + 1 : Nat) : Int) := by rw [w64 oM oM]; omega
      by_cases hxj : x ≤ j
      rotate_left
      · have hxj' : ((x : Int) ≤ (j : Nat)) = False := by rw [eq_iff_iff]; simp; omega
        rw [scanUp_end _ _ _ _ (.inl hxj)] at hxq
        subst hxq
        refine sw1 @hxj' ?_
        exact k_meet _ sE ⟨hle, rfl⟩
      have hxj' : ((x : Int) ≤ (j : Nat)) = True := by rw [eq_iff_iff]; simp; omega
      refine sw1 @hxj' ?_
      refine hS.less H2 dk x a _ hsk (hR.le hle) oM oM fun H3 hle3 => ?_
      cases hl : lt dk[x]! dk[a]! with
      | false =>
        rw [scanUp_end _ _ _ _ (.inr (by simp [hl]))] at hxq
        subst hxq
        refine sw0 ?_
        exact k_meet _ sE ⟨hle.trans hle3, rfl⟩
      | true =>
        rw [scanUp_go _ _ _ _ hxj (by simp [hl])] at hxq
        refine sw1 @hwx ?_
        exact k_loop (x + 1) oM sE ⟨oM, oM, hle.trans hle3, hxq⟩
    rintro env H2 ⟨hleU, rfl⟩
    refine sw0 ?_
    refine i_meet_blk (fun env H3 => Heap.le H H3 ∧ env = [some (.agg #[.func (.func fl) #[] cl, .func (.func fs) #[] cs]), some (.int .i64 a), some (.int .i64 b), some (.int .i64 pivot), some (.agg #[.func (.func fl) #[] cl, .func (.func fs) #[] cs]), none, none, some (.int .i64 (i2 : Nat)), some (.int .i64 (j2 : Nat)), none, none, none, none, none, none, none, none, none, none, none, none, none, none]) ?_ ?_
    rotate_left
    · refine i_loop (fun y : Nat => [some (.agg #[.func (.func fl) #[] cl, .func (.func fs) #[] cs]), some (.int .i64 a), some (.int .i64 b), some (.int .i64 pivot), some (.agg #[.func (.func fl) #[] cl, .func (.func fs) #[] cs]), none, none, some (.int .i64 (i2 : Nat)), some (.int .i64 (y : Nat)), none, none, none, none, none, none, none, none, none, none, none, none, none, none])
          (fun y H3 => (i2 ≤ y + 1 ∨ y = j) ∧ y ≤ j ∧ Heap.le H H3 ∧ scanDown (fun x => !lt x dk[a]!) dk i2 y = j2) (fun y => y) j sE ⟨oM, Nat.le_refl _, hleU, hj2⟩ ?_
      rintro y H3 ⟨hy1, hy2, hle, hyq⟩
      by_cases hyj : i2 ≤ y
      rotate_left
      · have hyj' : ((i2 : Int) ≤ (y : Int)) = False := by rw [eq_iff_iff]; simp; omega
        rw [scanDown_end _ _ _ _ (.inl hyj)] at hyq
        subst hyq
        refine sw1 @hyj' ?_
        exact k_meet _ sE ⟨hle, rfl⟩
      have hyj' : ((i2 : Int) ≤ (y : Int)) = True := by rw [eq_iff_iff]; simp; omega
      have hwy : IntKind.i64.wrap ((y : Int) - 1) = ((y - 1 : Nat) : Int) := by rw [w64 oM oM]; omega
      refine sw1 @hyj' ?_
      refine hS.less H3 dk y a _ hsk (hR.le hle) oM oM fun H4 hle4 => ?_
      cases hl : lt dk[y]! dk[a]! with
      | false =>
        rw [scanDown_go _ _ _ _ hyj oM (by simp [hl])] at hyq
        refine sw1 @hwy ?_
        exact k_loop (y - 1) oM sE ⟨oM, oM, hle.trans hle4, hyq⟩
      | true =>
        rw [scanDown_end _ _ _ _ (.inr (by simp [hl]))] at hyq
        subst hyq
        refine sw0 ?_
        exact k_meet _ sE ⟨hle.trans hle4, rfl⟩
    rintro env H3 ⟨hleD, rfl⟩
    have hR3 := hR.le hleD
    have hkv3 := hkv.trans (kv.of_le hleD)
    refine sw0 ?_
    refine i_cond (fun c => ?_) (fun c => ?_)
    · rw [if_pos oM] at hP
      rw [← hP]
      refine sw0 ?_
      exact k_meet _ sE ⟨dk, hsk, hR3, hkv3, rfl, oM, rfl⟩
    rw [if_neg oM] at hP
    have hw1 : IntKind.i64.wrap ((i2 : Int) + 1) = ((i2 + 1 : Nat) : Int) := by rw [w64 oM oM]; omega
    have hw2 : IntKind.i64.wrap ((j2 : Int) - 1) = ((j2 - 1 : Nat) : Int) := by rw [w64 oM oM]; omega
    refine sw0 ?_
    refine hS.swap H3 dk i2 j2 _ hsk hR3 oM oM fun H5 hR5 hk5 => ?_
    refine sw2 @hw1 @hw2 ?_
    exact k_loop (i2 + 1, j2 - 1, swp dk i2 j2) dM (by dsimp only; try simp only [Pf]) ⟨dM, dM, dM, by dsimp only; rw [size_swp]; exact hsk, hR5, hkv3.trans hk5, hP⟩
  clear hR5 hkv5
  rintro env H ⟨d9, hs9, hR9, hkv9, hd9, hlt9, rfl⟩
  rw [← hd9] at hK
  generalize (partLoop lt a i1 j1 d2).1 = j9 at *
  refine sw0 ?_
  refine hS.swap H d9 j9 a _ hs9 hR9 oM oM fun H5 hR5 hk5 => ?_
  refine sw0 ?_
  exact hK H5 hR5 (hkv9.trans hk5)
end Go.Cw
namespace Go.Cw
open Go
def aggT (t : Tg) : Value := .agg #[.int .i64 t.kind, .int .i64 t.filter, .int .i64 t.part, .int .i64 t.company, .int .i64 t.ref, .int .i64 t.serial]
def faultT (t : Tg) : Nat := if t.bad then 1 else 0
theorem Tg.bad_none {t : Tg} (h : partsOf t.part = none) : t.bad := by unfold Tg.bad; rw [h]; trivial
theorem Tg.bad_some {t : Tg} {a : Pa} (h : partsOf t.part = some a) : t.bad ↔ (t.kind < 1 ∨ 3 < t.kind ∨ t.filter < 0 ∨ 7 < t.filter ∨ t.serial < 0 ∨ 16777215 < t.serial ∨ t.company < 0 ∨ (10 ^ a.cd : Nat) ≤ t.company ∨ t.ref < 0 ∨ (10 ^ a.rd : Nat) ≤ t.ref) := by unfold Tg.bad; rw [h]
theorem fault_bad {t : Tg} (h : t.bad) : faultT t = 1 := if_pos h
theorem fault_ok {t : Tg} (h : ¬ t.bad) : faultT t = 0 := if_neg h
end Go.Cw
namespace Go.Cw
open Go
def S108 (N : Num) : Spec := fun args h K => ∃ t : Tg, args = [aggT t] ∧ ∀ h', Heap.le h h' → K (errV N (faultT t)) h'
theorem F108_ok {N : Num} {Γ : Ctx} [GoodC Γ] (H107 : Sat S107 (Γ 107)) (H117 : Sat S117 (Γ 117)) : Sat (S108 N) (SF N Γ F108) := by
  rintro _ h K ⟨t, rfl, hK⟩
  have hK1 : t.bad → ∀ h', Heap.le h h' → K (.iface (N.tid 111) (.int .i64 1)) h' := fun hb h' hl => by have := hK h' hl; rw [fault_bad hb, errV_succ] at this; exact this
  have hK0 : ¬ t.bad → ∀ h', Heap.le h h' → K .nilIface h' := fun hb h' hl => by have := hK h' hl; rw [fault_ok hb] at this; exact this
  clear hK
  refine i_fun rfl ?_
  simp only [F108, Ze, Nat.reduceSub, Nat.reduceAdd, aggT]
  have hsome := fun a => Tg.bad_some (t := t) (a := a)
  refine sw0 ?_
  refine i_cond (fun c1 => ?_) (fun c1 => ?_)
  · refine sw0 ?_
    refine hK1 ?_ h (Heap.le.refl h)
    cases hp : partsOf t.part with
    | none => exact Tg.bad_none hp
    | some a => exact (hsome a hp).2 oM
  refine sw0 ?_
  refine i_call H107 ⟨t.part, rfl, fun h1 hle1 => ?_⟩
  cases hp : partsOf t.part with
  | none =>
    simp only [paV, hp, Option.elim]
    refine sw0 ?_
    refine i_le (le_one (Heap.le.refl _)) ?_
    refine sw0 ?_
    refine i_le (le_two (Heap.le.refl _) (Heap.le.refl _)) ?_
    refine sw0 ?_
    exact hK1 (Tg.bad_none hp) h1 hle1
  | some a =>
    have hbad := hsome a hp
    have hpa := partsOf_some hp
    have hp18 : a.cd ≤ 18 ∧ a.rd ≤ 18 := oM
    simp only [paV, hp, Option.elim, Pa.enc]
    by_cases hc0 : t.company < 0
    · have hc1 : (t.company < 0) = True := by simpa using hc0
      refine sw1 @hc1 ?_
      refine i_le (le_one (Heap.le.refl _)) ?_
      refine sw0 ?_
      refine i_le (le_two (Heap.le.refl _) (Heap.le.refl _)) ?_
      refine sw0 ?_
      exact hK1 (hbad.2 oM) h1 hle1
    · have hc1 : (t.company < 0) = False := by simpa using hc0
      refine sw1 @hc1 ?_
      refine i_call H117 ⟨a.cd, rfl, hp18.1, ?_⟩
      refine i_le (le_one (Heap.le.refl _)) ?_
      by_cases hb3 : ((10 ^ a.cd : Nat) : Int) ≤ t.company ∨ t.ref < 0
      · have hcond : (((10 ^ a.cd : Nat) : Int) ≤ t.company ∨ t.ref < 0) = True := by simpa using hb3
        refine sw1 @hcond ?_
        refine i_le (le_two (Heap.le.refl _) (Heap.le.refl _)) ?_
        refine sw0 ?_
        exact hK1 (hbad.2 oM) h1 hle1
      · have hcond : (((10 ^ a.cd : Nat) : Int) ≤ t.company ∨ t.ref < 0) = False := by simpa using hb3
        refine sw1 @hcond ?_
        refine i_call H117 ⟨a.rd, rfl, hp18.2, ?_⟩
        refine i_le (le_two (Heap.le.refl _) (Heap.le.refl _)) ?_
        refine sw0 ?_
        refine i_cond (fun c2 => ?_) (fun c2 => ?_)
        · refine sw0 ?_
          exact hK1 (hbad.2 oM) h1 hle1
        · refine sw0 ?_
          exact hK0 (fun h => by have := hbad.1 h; omega) h1 hle1
end Go.Cw
namespace Go.Cw
open Go
theorem shr_nat (k k' : IntKind) (x s : Nat) (hs : s ≤ k.bits) : binV .shr (.int k (x : Int)) (.int k' (s : Int)) = some (.int k ((x / 2 ^ s : Nat) : Int)) := by
  simp only [binV, shiftV]
  rw [if_neg oM, Int.toNat_natCast, show Nat.min s k.bits = s from Nat.min_eq_left hs]
  have h1 : (x : Int).fdiv (2 ^ s) = ((x / 2 ^ s : Nat) : Int) := by
    rw [Int.fdiv_eq_ediv_of_nonneg _ (Int.le_of_lt (Int.pow_pos oM))]
    simp
  rw [h1]
theorem wrap_u64 (n : Nat) (h : n < 2 ^ 64) : IntKind.u64.wrap (n : Int) = (n : Int) := by
  simp only [IntKind.wrap, IntKind.bits, IntKind.signed]
  simp; omega
theorem shl_nat (k' : IntKind) (x s : Nat) (hs : s ≤ 64) (hx : x * 2 ^ s < 2 ^ 64) : binV .shl (.int .u64 (x : Int)) (.int k' (s : Int)) = some (.int .u64 ((x * 2 ^ s : Nat) : Int)) := by
  simp only [binV, shiftV]
  rw [if_neg oM, Int.toNat_natCast, show Nat.min s IntKind.u64.bits = s from Nat.min_eq_left hs]
  have h1 : (x : Int) * 2 ^ s = ((x * 2 ^ s : Nat) : Int) := by simp
  rw [h1, wrap_u64 _ hx]
theorem bits_nat (n x : Nat) (h : x < 2 ^ n) : (BitVec.ofInt n (x : Int)).toNat = x := by
  simp [Nat.mod_eq_of_lt h]
theorem and_u64 (x y : Nat) (hx : x < 2 ^ 64) (hy : y < 2 ^ 64) : binV .and (.int .u64 (x : Int)) (.int .u64 (y : Int)) = some (.int .u64 ((x &&& y : Nat) : Int)) := by
  have hb : (BitVec.ofInt IntKind.u64.bits (x : Int) &&& BitVec.ofInt IntKind.u64.bits (y : Int)).toNat = x &&& y := by rw [BitVec.toNat_and, bits_nat IntKind.u64.bits x hx, bits_nat IntKind.u64.bits y hy]
  simp only [binV, intV, if_true]
  rw [hb, wrap_u64 _ (Nat.lt_of_le_of_lt Nat.and_le_left hx)]
theorem or_u64 (x y : Nat) (hx : x < 2 ^ 64) (hy : y < 2 ^ 64) : binV .or (.int .u64 (x : Int)) (.int .u64 (y : Int)) = some (.int .u64 ((x ||| y : Nat) : Int)) := by
  have hb : (BitVec.ofInt IntKind.u64.bits (x : Int) ||| BitVec.ofInt IntKind.u64.bits (y : Int)).toNat = x ||| y := by rw [BitVec.toNat_or, bits_nat IntKind.u64.bits x hx, bits_nat IntKind.u64.bits y hy]
  simp only [binV, intV, if_true]
  rw [hb, wrap_u64 _ (Nat.or_lt_two_pow hx hy)]
def but (b : Nat) (h h' : Heap) : Prop := ∀ x, x ≠ b → h' x = h x
theorem but.le {b : Nat} {h0 h h' : Heap} (hl : Heap.le h0 h) (hn : h0 b = none) (hb : but b h h') : Heap.le h0 h' := by
  intro x o hx
  have : x ≠ b := by intro e; subst e; rw [hn] at hx; cases hx
  rw [hb x this]; exact hl x o hx
theorem but.cell {b : Nat} {h h' : Heap} (hb : but b h h') {a : Addr} (ha : a.block ≠ b) : h'.cell a = h.cell a := by
  simp only [Heap.cell, Heap.cells, hb _ ha]
end Go.Cw
namespace Go.Cw
open Go
def tgV (b : List UInt8) : Value := aggT ((tagOf b).getD Tg.zero)
theorem but.obj {b : Nat} {h h' : Heap} (hb : but b h h') {a : Addr} {cs : List Value} (ha : a.block ≠ b) (ho : objAt h a cs) : objAt h' a cs := by
  obtain ⟨h1, c, t, h2, h3⟩ := ho
  exact ⟨h1, c, t, by rw [hb _ ha]; exact h2, h3⟩
theorem objAt.nn {g : Heap} {a : Addr} {cs : List Value} (h : objAt g a cs) : g a.block ≠ none := by
  obtain ⟨_, c, t, h1, _⟩ := h; rw [h1]; simp
end Go.Cw
namespace Go.Cw
open Go Go.Sort Go.Proofs
theorem shl_mod (k' : IntKind) (x s : Nat) (hs : s ≤ 64) : binV .shl (.int .u64 (x : Int)) (.int k' (s : Int)) = some (.int .u64 ((x * 2 ^ s % 18446744073709551616 : Nat) : Int)) := by
  simp only [binV, shiftV]
  rw [if_neg oM, Int.toNat_natCast, show Nat.min s IntKind.u64.bits = s from Nat.min_eq_left hs]
  have h1 : (x : Int) * 2 ^ s = ((x * 2 ^ s : Nat) : Int) := by simp
  rw [h1]
  simp [IntKind.wrap, IntKind.bits, IntKind.signed]
theorem xor_u64 (x y : Nat) (hx : x < 2 ^ 64) (hy : y < 2 ^ 64) : binV .xor (.int .u64 (x : Int)) (.int .u64 (y : Int)) = some (.int .u64 ((x ^^^ y : Nat) : Int)) := by
  have hb : (BitVec.ofInt IntKind.u64.bits (x : Int) ^^^ BitVec.ofInt IntKind.u64.bits (y : Int)).toNat = x ^^^ y := by rw [BitVec.toNat_xor, bits_nat IntKind.u64.bits x hx, bits_nat IntKind.u64.bits y hy]
  simp only [binV, intV, if_true]
  rw [hb, wrap_u64 _ (Nat.xor_lt_two_pow hx hy)]
theorem objAt_kept {h h' : Heap} {b : Nat} {cs : List Value} (ho : objAt h ⟨b, 0, none⟩ cs) (hk : ∀ o, h b = some o → h' b = some o) : objAt h' ⟨b, 0, none⟩ cs := by
  obtain ⟨h1, c, t, h2, h3⟩ := ho
  exact ⟨h1, c, t, hk _ h2, h3⟩
def S76 : Spec := fun args h K => ∃ n : Nat, args = [.int .u64 n] ∧ n < 2 ^ 60 ∧ K (.int .i64 (bitsLen n : Nat)) h
def S113 : Spec := fun args h K => ∃ n : Nat, args = [.int .i64 n] ∧ n < 2 ^ 60 ∧ K (.int .u64 (1 <<< bitsLen n : Nat)) h
theorem F113_ok {N : Num} {Γ : Ctx} [GoodC Γ] (H76 : Sat S76 (Γ 76)) : Sat S113 (SF N Γ F113) := by
  rintro _ h K ⟨n, rfl, hn, hK⟩
  refine i_fun rfl ?_
  simp only [F113, Ze, Nat.reduceSub, Nat.reduceAdd]
  have hw : IntKind.u64.wrap (n : Int) = (n : Int) := wrap_u64 _ oM
  have hl : bitsLen n ≤ 60 := (bitsLen_le_iff n 60).2 hn
  have hw2 : IntKind.u64.wrap ((bitsLen n : Nat) : Int) = ((bitsLen n : Nat) : Int) := wrap_u64 _ oM
  have hp : 2 ^ bitsLen n ≤ 2 ^ 60 := Nat.pow_le_pow_right oM hl
  have hs := shl_nat .u64 1 (bitsLen n) oM oM
  rw [Nat.one_mul] at hs
  rw [Nat.one_shiftLeft] at hK
  refine sw1 @hw ?_
  refine i_call H76 ⟨n, rfl, hn, ?_⟩
  have hs' : binV .shl (.int .u64 1) (.int .u64 ((bitsLen n : Nat) : Int)) = some (.int .u64 ((2 ^ bitsLen n : Nat) : Int)) := hs
  refine sw2 @hw2 @hs' ?_
  exact hK
def S114 : Spec := fun args h K => ∃ b, ∃ x : Nat, args = [.pointer (some ⟨b, 0, none⟩)] ∧ objAt h ⟨b, 0, none⟩ [.int .u64 x] ∧ x < 18446744073709551616 ∧ ∀ h', kb b h h' → objAt h' ⟨b, 0, none⟩ [.int .u64 (xorNextN x : Nat)] → K (.int .u64 (xorNextN x : Nat)) h'
theorem F114_ok {N : Num} {Γ : Ctx} [GoodC Γ] : Sat S114 (SF N Γ F114) := by
  rintro _ h K ⟨b, x, rfl, ho, hx, hK⟩
  have hlt := xorNextN_lt x hx
  refine i_fun rfl ?_
  simp only [F114, Ze, Nat.reduceSub, Nat.reduceAdd]
  have hc : h.cell ⟨b, 0, none⟩ = some (.int .u64 x) := ho.rules.2.1 (by simp)
  obtain ⟨x1, hx1⟩ : ∃ x1, x1 = x * 2 ^ 13 % 18446744073709551616 := ⟨_, rfl⟩
  have hx1l : x1 < 2 ^ 64 := by rw [hx1]; exact Nat.mod_lt _ oM
  obtain ⟨y, hy⟩ : ∃ y, y = x ^^^ x1 := ⟨_, rfl⟩
  have hyl : y < 2 ^ 64 := by rw [hy]; exact Nat.xor_lt_two_pow hx hx1l
  obtain ⟨y1, hy1⟩ : ∃ y1, y1 = y / 2 ^ 7 := ⟨_, rfl⟩
  have hy1l : y1 < 2 ^ 64 := oM
  obtain ⟨z, hz⟩ : ∃ z, z = y ^^^ y1 := ⟨_, rfl⟩
  have hzl : z < 2 ^ 64 := by rw [hz]; exact Nat.xor_lt_two_pow hyl hy1l
  obtain ⟨z1, hz1⟩ : ∃ z1, z1 = z * 2 ^ 17 % 18446744073709551616 := ⟨_, rfl⟩
  have hz1l : z1 < 2 ^ 64 := by rw [hz1]; exact Nat.mod_lt _ oM
  obtain ⟨q, hq⟩ : ∃ q, q = z ^^^ z1 := ⟨_, rfl⟩
  have hxn : xorNextN x = q := by rw [hq, hz1, hz, hy1, hy, hx1]; rfl
  rw [hxn] at hK hlt
  have s1 : binV .shl (.int .u64 (x : Int)) (.int .u64 13) = some (.int .u64 (x1 : Int)) := by rw [hx1]; exact shl_mod .u64 x 13 oM
  have t1 : binV .xor (.int .u64 (x : Int)) (.int .u64 (x1 : Int)) = some (.int .u64 (y : Int)) := by rw [hy]; exact xor_u64 x x1 hx hx1l
  have s2 : binV .shr (.int .u64 (y : Int)) (.int .u64 7) = some (.int .u64 (y1 : Int)) := by rw [hy1]; exact shr_nat .u64 .u64 y 7 (by simp [IntKind.bits])
  have t2 : binV .xor (.int .u64 (y : Int)) (.int .u64 (y1 : Int)) = some (.int .u64 (z : Int)) := by rw [hz]; exact xor_u64 y y1 hyl hy1l
  have s3 : binV .shl (.int .u64 (z : Int)) (.int .u64 17) = some (.int .u64 (z1 : Int)) := by rw [hz1]; exact shl_mod .u64 z 17 oM
  have t3 : binV .xor (.int .u64 (z : Int)) (.int .u64 (z1 : Int)) = some (.int .u64 (q : Int)) := by rw [hq]; exact xor_u64 z z1 hzl hz1l
  clear hx1 hy hy1 hz hz1 hq hxn
  refine sw3 @hc @s1 @t1 ?_
  refine i_st ho 0 1 rfl rfl oM (by simp) fun o1 hob1 _ => ?_
  have p1 : objAt (h.set b o1) ⟨b, 0, none⟩ [.int .u64 y] := hob1 h rfl
  have k1 : kb b h (h.set b o1) := fun x o' hx hne => by rw [Heap.set_ne hne]; exact hx
  generalize h.set b o1 = h1 at *
  have hc1 : h1.cell ⟨b, 0, none⟩ = some (.int .u64 y) := p1.rules.2.1 (by simp)
  refine sw3 @hc1 @s2 @t2 ?_
  refine i_st p1 0 1 rfl rfl oM (by simp) fun o2 hob2 _ => ?_
  have p2 : objAt (h1.set b o2) ⟨b, 0, none⟩ [.int .u64 z] := hob2 h1 rfl
  have k2 : kb b h1 (h1.set b o2) := fun x o' hx hne => by rw [Heap.set_ne hne]; exact hx
  generalize h1.set b o2 = h2 at *
  have hc2 : h2.cell ⟨b, 0, none⟩ = some (.int .u64 z) := p2.rules.2.1 (by simp)
  refine sw3 @hc2 @s3 @t3 ?_
  refine i_st p2 0 1 rfl rfl oM (by simp) fun o3 hob3 _ => ?_
  have p3 : objAt (h2.set b o3) ⟨b, 0, none⟩ [.int .u64 q] := hob3 h2 rfl
  have k3 : kb b h2 (h2.set b o3) := fun x o' hx hne => by rw [Heap.set_ne hne]; exact hx
  generalize h2.set b o3 = h3 at *
  have hc3 : h3.cell ⟨b, 0, none⟩ = some (.int .u64 q) := p3.rules.2.1 (by simp)
  refine sw1 @hc3 ?_
  exact hK h3 ((k1.trans k2).trans k3) p3
def S100 (N : Num) (Γ : Ctx) : Spec := fun args h K => ∃ F v fl fs cl cs lt d, ∃ a b : Nat, args = [.agg #[.func (.func fl) #[] cl, .func (.func fs) #[] cs], .int .i64 a, .int .i64 b] ∧ So N Γ F v fl fs cl cs lt d.size ∧ Rw F h v d ∧ a ≤ b ∧ b ≤ d.size ∧
  ∀ h', Rw F h' v (breakPatterns d a b) → kv v h h' → K (.tuple #[]) h'
theorem F100_ok {N : Num} {Γ : Ctx} [GoodC Γ] (H113 : Sat S113 (Γ 113)) (H114 : Sat S114 (Γ 114)) : Sat (S100 N Γ) (SF N Γ F100) := by
  rintro _ h K ⟨F, v, fl, fs, cl, cs, lt, d, a, b, rfl, hS, hd, hab, hb, hK⟩
  have hsz := hS.size
  obtain ⟨l, rfl⟩ : ∃ l, b = a + l := ⟨b - a, oM⟩
  refine i_fun rfl ?_
  simp only [F100, Ze, Nat.reduceSub, Nat.reduceAdd]
  have hw1 : IntKind.i64.wrap (((a + l : Nat) : Int) - a) = (l : Int) := by rw [w64 oM oM]; omega
  refine sw1 @hw1 ?_
  refine i_cond (fun c => ?_) (fun c => ?_)
  rotate_left
  · have hbp : breakPatterns d a (a + l) = d := by unfold breakPatterns; simp only [Nat.add_sub_cancel_left]; rw [if_neg oM]
    rw [hbp] at hK
    refine sw0 ?_
    exact hK h hd kv.refl
  have h8 : 8 ≤ l := oM
  rw [breakPatterns_eq d a l h8] at hK
  obtain ⟨M, hM⟩ : ∃ M : Nat, M = 1 <<< bitsLen l := ⟨_, rfl⟩
  have hM1 : 1 ≤ M := by rw [hM, Nat.one_shiftLeft]; exact Nat.two_pow_pos _
  have hM2 : M ≤ 2 * l := by rw [hM, Nat.one_shiftLeft]; exact two_pow_bitsLen_le oM
  rw [← hM] at hK
  have hq : Int.tdiv (l : Int) 4 = ((l / 4 : Nat) : Int) := rfl
  have hwq : IntKind.i64.wrap ((l / 4 : Nat) : Int) = ((l / 4 : Nat) : Int) := w64 oM oM
  obtain ⟨i0, hi0⟩ : ∃ i, i = a + l / 4 * 2 - 1 := ⟨_, rfl⟩
  rw [← hi0] at hK
  have hwi : IntKind.i64.wrap (IntKind.i64.wrap ((a : Int) + IntKind.i64.wrap (((l / 4 : Nat) : Int) * 2)) - 1) = (i0 : Int) := by rw [w64 (n := ((l / 4 : Nat) : Int) * 2) oM oM, w64 (n := (a : Int) + ((l / 4 : Nat) : Int) * 2) oM oM, w64 oM oM]; omega
  have hwe : IntKind.i64.wrap (IntKind.i64.wrap ((a : Int) + IntKind.i64.wrap (((l / 4 : Nat) : Int) * 2)) + 1) = ((i0 + 2 : Nat) : Int) := by rw [w64 (n := ((l / 4 : Nat) : Int) * 2) oM oM, w64 (n := (a : Int) + ((l / 4 : Nat) : Int) * 2) oM oM, w64 oM oM]; omega
  have hwu : IntKind.u64.wrap (l : Int) = (l : Int) := wrap_u64 _ oM
  refine sw1 @hwu ?_
  refine i_newO fun b5 h1 hle1 hb5 ho => ?_
  have hF5 : F b5 = none := le_none hd.1 b5 hb5
  have hv5 : blkOf v ≠ some b5 := fun e => hd.slb.1.mem e hb5
  refine sw0 ?_
  refine i_st (ho.le (fr_le _ _)) 0 1 rfl rfl oM (by simp [Value.cells]) fun o hob _ => ?_
  have hr0 : (UInt64.ofNat l).toNat = l := by simp; omega
  have ho2 : objAt (h1.set b5 o) ⟨b5, 0, none⟩ [.int .u64 ((UInt64.ofNat l).toNat : Nat)] := by rw [hr0]; exact hob h1 rfl
  have hle2 : Heap.le h (h1.set b5 o) := but.le (b := b5) hle1 hb5 fun x hx => Heap.set_ne hx
  generalize h1.set b5 o = h2 at *
  refine sw0 ?_
  refine i_call H113 ⟨l, rfl, oM, ?_⟩
  rw [← hM]
  refine sw3 @hq @hwq @hwi ?_
  refine i_loop (fun x : Nat × UInt64 × Array Si => [some (.agg #[.func (.func fl) #[] cl, .func (.func fs) #[] cs]), some (.int .i64 a), some (.int .i64 (a + l : Nat)), some (.agg #[.func (.func fl) #[] cl, .func (.func fs) #[] cs]), some (.int .i64 l), some (.pointer (some ⟨b5, 0, none⟩)), some (.int .u64 M), some (.int .i64 ((i0 + x.1 : Nat) : Int)), none, none, none, none, none, none, none])
    (fun x H => x.1 ≤ 3 ∧ x.2.2.size = d.size ∧ Rw F H v x.2.2 ∧ kv v h H ∧ objAt H ⟨b5, 0, none⟩ [.int .u64 (x.2.1.toNat : Nat)] ∧ bpRest a l M i0 (3 - x.1) x.1 (x.2.1, x.2.2) = bpRest a l M i0 3 0 (UInt64.ofNat l, d)) (fun x => 3 - x.1) (0, UInt64.ofNat l, d) (by dsimp only; try simp only [Pf]; simp [hi0]) ⟨dM, rfl, hd.le hle2, kv.of_le hle2, ho2, rfl⟩ ?_
  rintro ⟨t, r, dk⟩ H ⟨ht, hsk, hR, hkv, hoH, hP⟩
  dsimp only at ht hsk hR hoH hP ⊢
  refine sw3 @hq @hwq @hwe ?_
  refine i_cond (fun c2 => ?_) (fun c2 => ?_)
  rotate_left
  · have : t = 3 := oM
    subst this
    rw [show 3 - 3 = 0 from rfl, bpRest] at hP
    rw [← hP] at hK
    refine sw0 ?_
    exact hK H hR hkv
  have ht2 : t < 3 := oM
  have hrl := r.toNat_lt
  refine sw0 ?_
  refine i_call H114 ⟨b5, r.toNat, rfl, hoH, oM, fun H3 hk3 ho3 => ?_⟩
  rw [← xorNext_toNat] at ho3 ⊢
  have hnl := (xorNext r).toNat_lt
  have hM64 : IntKind.u64.wrap ((M : Int) - 1) = ((M - 1 : Nat) : Int) := by rw [show (M : Int) - 1 = ((M - 1 : Nat) : Int) by omega, wrap_u64 _ oM]
  have han := and_u64 (xorNext r).toNat (M - 1) oM oM
  have hal : (xorNext r).toNat &&& (M - 1) ≤ M - 1 := Nat.and_le_right
  obtain ⟨e, he⟩ : ∃ e, e = (xorNext r).toNat &&& (M - 1) := ⟨_, rfl⟩
  rw [← he] at han hal
  have hwe2 : IntKind.i64.wrap (e : Int) = (e : Int) := w64 oM oM
  have hR3 := hR.kb hF5 hv5 hk3
  have hkv3 : kv v h H3 := fun x o hx hne => hk3 x o (hkv x o hx hne) (by rintro rfl; rw [hb5] at hx; cases hx)
  refine sw3 @hM64 @han @hwe2 ?_
  obtain ⟨ot, hot⟩ : ∃ ot, ot = if e ≥ l then e - l else e := ⟨_, rfl⟩
  have hotl : ot < l := by rw [hot]; split <;> omega
  have hstep := bp_step a l M i0 t r dk ot ht2 (by rw [← he]; exact hot.symm)
  refine i_meet_cond (fun env G => G = H3 ∧ env = [some (.agg #[.func (.func fl) #[] cl, .func (.func fs) #[] cs]), some (.int .i64 a), some (.int .i64 (a + l : Nat)), some (.agg #[.func (.func fl) #[] cl, .func (.func fs) #[] cs]), some (.int .i64 l), some (.pointer (some ⟨b5, 0, none⟩)), some (.int .u64 M), some (.int .i64 ((i0 + t : Nat) : Int)), some (.int .i64 ot), none, none, none, none, none, none]) ?_ ?_
  rotate_left
  · refine i_cond (fun c3 => ?_) (fun c3 => ?_)
    · have hw9 : IntKind.i64.wrap ((e : Int) - l) = (ot : Int) := by rw [w64 oM oM, hot, if_pos oM]; omega
      refine sw1 @hw9 ?_
      exact k_meet _ sE ⟨rfl, rfl⟩
    · have : e = ot := by rw [hot, if_neg oM]
      rw [this]
      refine sw0 ?_
      exact k_meet _ sE ⟨rfl, rfl⟩
  rintro env G ⟨rfl, rfl⟩
  have hwao : IntKind.i64.wrap ((a : Int) + ot) = ((a + ot : Nat) : Int) := by rw [w64 oM oM]; omega
  have hwt : IntKind.i64.wrap (((i0 + t : Nat) : Int) + 1) = ((i0 + (t + 1) : Nat) : Int) := by rw [w64 oM oM]; omega
  refine sw1 @hwao ?_
  refine hS.swap G dk (i0 + t) (a + ot) _ hsk hR3 oM oM fun H4 hR4 hk4 => ?_
  refine sw1 @hwt ?_
  exact k_loop (t + 1, xorNext r, swp dk (i0 + t) (a + ot)) dM (by dsimp only; try simp only [Pf]) ⟨dM, by dsimp only; rw [size_swp]; exact hsk, hR4, hkv3.trans hk4, objAt_kept ho3 fun o h5 => hk4 _ _ h5 hv5, by rw [← hP]; exact hstep.symm⟩
end Go.Cw
namespace Go.Cw
open Go Go.Sort Go.Proofs
def S77 (N : Num) (Γ : Ctx) (n : Nat) : Spec := fun args h K => ∃ F v fl fs cl cs lt d, ∃ a b limit : Nat, args = [.agg #[.func (.func fl) #[] cl, .func (.func fs) #[] cs], .int .i64 a, .int .i64 b, .int .i64 limit] ∧ So N Γ F v fl fs cl cs lt d.size ∧ SWO lt ∧ Rw F h v d ∧ a ≤ b ∧ b ≤ d.size ∧ b - a ≤ n ∧ limit ≤ 1000 ∧ Below lt a b d ∧
  ∀ h', Rw F h' v (pdq lt d a b limit true true) → kv v h h' → K (.tuple #[]) h'
theorem i_seqm {N : Num} {Γ : Ctx} [GoodC Γ] {Q : SE → Env → Heap → Prop} [MonoQ Q] (R : Env → Heap → Prop) {s b : St} {env : Env} {h : Heap} (hb : ∀ env h, R env h → SW N Γ b Q env h) (hx : SW N Γ s (meetK R Q) env h) : SW N Γ (.seq s b) Q env h := by
  show SW N Γ s (seqK N Γ b Q) env h
  exact i_meet R hb hx
theorem hintZ_two {x : Hint} : hintZ x = 2 ↔ x = .decreasing := by cases x <;> simp [hintZ]
theorem hintZ_one {x : Hint} : hintZ x = 1 ↔ x = .increasing := by cases x <;> simp [hintZ]
theorem F77_ok {N : Num} {Γ : Ctx} [GoodC Γ] (n : Nat) (H77 : ∀ m, m < n → Sat (S77 N Γ m) (Γ 77)) (H98 : Sat (S98 N Γ) (Γ 98)) (H99 : Sat (S99 N Γ) (Γ 99)) (H100 : Sat (S100 N Γ) (Γ 100)) (H101 : Sat (S101 N Γ) (Γ 101)) (H102 : Sat (S102 N Γ) (Γ 102)) (H103 : Sat (S103 N Γ) (Γ 103)) (H104 : Sat (S104 N Γ) (Γ 104)) (H105 : Sat (S105 N Γ) (Γ 105)) : Sat (S77 N Γ n) (SF N Γ F77) := by
  rintro _ h K ⟨F, v, fl, fs, cl, cs, lt, d, a, b, limit, rfl, hS, hO, hd, hab, hb, hn, hlim, hBel0, hK⟩
  have hsz := hS.size
  refine i_fun rfl ?_
  simp only [F77, Ze, Nat.reduceSub, Nat.reduceAdd]
  refine sw0 ?_
  refine i_loop (fun x : Nat × Nat × Nat × Bool × Bool × Array Si => [some (.agg #[.func (.func fl) #[] cl, .func (.func fs) #[] cs]), some (.int .i64 (x.1 : Nat)), some (.int .i64 (x.2.1 : Nat)), some (.int .i64 (x.2.2.1 : Nat)), some (.agg #[.func (.func fl) #[] cl, .func (.func fs) #[] cs]), some (.bool x.2.2.2.1), some (.bool x.2.2.2.2.1), none, none, none, none, none, none, none, none, none, none, none, none, none, none, none, none, none, none, none, none, none, none])
    (fun x H => a ≤ x.1 ∧ x.1 ≤ x.2.1 ∧ x.2.1 ≤ b ∧ x.2.2.1 ≤ limit ∧ x.2.2.2.2.2.size = d.size ∧ Below lt x.1 x.2.1 x.2.2.2.2.2 ∧ Rw F H v x.2.2.2.2.2 ∧ kv v h H ∧ pdq lt x.2.2.2.2.2 x.1 x.2.1 x.2.2.1 x.2.2.2.1 x.2.2.2.2.1 = pdq lt d a b limit true true) (fun x => x.2.1 - x.1) (a, b, limit, true, true, d) (by dsimp only; try simp only [Pf]) ⟨Nat.le_refl _, hab, Nat.le_refl _, Nat.le_refl _, rfl, hBel0, hd, kv.refl, rfl⟩ ?_
  rintro ⟨a', b', lim, wb, wp, dk⟩ H ⟨haa, hab', hbb, hll, hsk, hBel, hR, hkv, hP⟩
  dsimp only at haa hab' hbb hll hsk hBel hR hP ⊢
  rw [← hP] at hK
  have hSk : So N Γ F v fl fs cl cs lt dk.size := by rw [hsk]; exact hS
  have hwL : IntKind.i64.wrap ((b' : Int) - a') = ((b' - a' : Nat) : Int) := by rw [w64 oM oM]; omega
  refine sw1 @hwL ?_
  refine i_cond (fun c1 => ?_) (fun c1 => ?_)
  · rw [pdq_small oM] at hK
    refine sw0 ?_
    refine i_call H98 ⟨F, v, fl, fs, cl, cs, lt, dk, a', b', rfl, hSk, hR, hab', oM, fun H2 hR2 hk2 => ?_⟩
    refine sw0 ?_
    exact hK H2 hR2 (hkv.trans hk2)
  have h12 : ¬ b' - a' ≤ 12 := oM
  refine sw0 ?_
  refine i_cond (fun c2 => ?_) (fun c2 => ?_)
  · rw [pdq_heap h12 oM] at hK
    refine sw0 ?_
    refine i_call H99 ⟨F, v, fl, fs, cl, cs, lt, dk, a', b', rfl, hSk, hR, hab', oM, fun H2 hR2 hk2 => ?_⟩
    refine sw0 ?_
    exact hK H2 hR2 (hkv.trans hk2)
  have hl0 : ¬ lim = 0 := oM
  obtain ⟨s1, B1, hc1, s2, B2, hpv, s3, B3⟩ := rd_facts (lt := lt) (limit := lim) (wb := wb) (wp := wp) hO partialInsertionSort_holds reverseRange_holds (show a' < b' by omega) (show b' ≤ dk.size by omega) hBel
  have hrl : (rd lt dk a' b' lim wb wp).lim ≤ lim := rd_lim_le
  refine sw0 ?_
  refine i_meet_cond (fun env H2 => Rw F H2 v (rd lt dk a' b' lim wb wp).d1 ∧ kv v h H2 ∧ env = [some (.agg #[.func (.func fl) #[] cl, .func (.func fs) #[] cs]), some (.int .i64 (a' : Nat)), some (.int .i64 (b' : Nat)), some (.int .i64 ((rd lt dk a' b' lim wb wp).lim : Nat)), some (.agg #[.func (.func fl) #[] cl, .func (.func fs) #[] cs]), some (.bool wb), some (.bool wp), some (.int .i64 (b' - a' : Nat)), none, none, none, none, none, none, none, none, none, none, none, none, none, none, none, none, none, none, none, none, none]) ?_ ?_
  rotate_left
  · cases wb with
    | true =>
      refine sw0 ?_
      exact k_meet _ (by rw [rd_true.2]; try simp only [Pf]) ⟨hR, hkv, rfl⟩
    | false =>
      refine sw0 ?_
      refine i_call H100 ⟨F, v, fl, fs, cl, cs, lt, dk, a', b', rfl, hSk, hR, hab', oM, fun H2 hR2 hk2 => ?_⟩
      have hwl : IntKind.i64.wrap ((lim : Int) - 1) = (((rd lt dk a' b' lim false wp).lim : Nat) : Int) := by rw [rd_false.2, w64 oM oM]; omega
      refine sw1 @hwl ?_
      exact k_meet _ sE ⟨by rw [rd_false.1]; exact hR2, hkv.trans hk2, rfl⟩
  clear hR hkv
  rintro env H2 ⟨hR1, hkv1, rfl⟩
  refine sw0 ?_
  refine i_call H101 ⟨F, v, fl, fs, cl, cs, lt, (rd lt dk a' b' lim wb wp).d1, a', b', rfl, by rw [s1]; exact hSk, hR1, oM, oM, fun H3 hR3 hk3 => ?_⟩
  have hkv3 := hkv1.trans hk3
  rw [← rd_c]
  clear hR1 hkv1 hk3
  refine sw0 ?_
  refine i_meet_cond (fun env H4 => Rw F H4 v (rd lt dk a' b' lim wb wp).d2 ∧ kv v h H4 ∧ env = [some (.agg #[.func (.func fl) #[] cl, .func (.func fs) #[] cs]), some (.int .i64 (a' : Nat)), some (.int .i64 (b' : Nat)), some (.int .i64 ((rd lt dk a' b' lim wb wp).lim : Nat)), some (.agg #[.func (.func fl) #[] cl, .func (.func fs) #[] cs]), some (.bool wb), some (.bool wp), some (.int .i64 (b' - a' : Nat)), some (.int .i64 ((rd lt dk a' b' lim wb wp).pivot : Nat)), some (.int .i64 (hintZ (rd lt dk a' b' lim wb wp).hint)), none, none, none, none, none, none, none, none, none, none, none, none, none, none, none, none, none, none, none]) ?_ ?_
  rotate_left
  · refine i_cond (fun c3 => ?_) (fun c3 => ?_)
    · have hh := hintZ_two.1 c3
      obtain ⟨e1, e2, e3⟩ := rd_dec hh
      refine sw0 ?_
      refine i_call H102 ⟨F, v, fl, fs, cl, cs, lt, (rd lt dk a' b' lim wb wp).d1, a', b', rfl, by rw [s1]; exact hSk, hR3, oM, oM, fun H4 hR4 hk4 => ?_⟩
      have hwp : IntKind.i64.wrap (IntKind.i64.wrap ((b' : Int) - 1) - IntKind.i64.wrap (((rd lt dk a' b' lim wb wp).c.1 : Int) - a')) = (((rd lt dk a' b' lim wb wp).pivot : Nat) : Int) := by
        rw [e2, w64 (n := (b' : Int) - 1) oM oM, w64 (n := ((rd lt dk a' b' lim wb wp).c.1 : Int) - a') oM oM, w64 oM oM]; omega
      refine sw1 @hwp ?_
      refine k_meet _ (by rw [e3, e2]; simp only [hintZ]; try simp only [Pf]) ⟨by rw [e1]; exact hR4, hkv3.trans hk4, rfl⟩
    · have hh : (rd lt dk a' b' lim wb wp).c.2 ≠ .decreasing := fun e => c3 (hintZ_two.2 e)
      obtain ⟨e1, e2, e3⟩ := rd_not hh
      refine sw0 ?_
      refine k_meet _ (by rw [e2, e3]; try simp only [Pf]) ⟨by rw [e1]; exact hR3, hkv3, rfl⟩
  clear hR3 hkv3
  rintro env H4 ⟨hR4, hkv4, rfl⟩
  refine sw0 ?_
  refine i_meet_cond (fun env H5 => (rd lt dk a' b' lim wb wp).pi.2 = false ∧ Rw F H5 v (rd lt dk a' b' lim wb wp).pi.1 ∧ kv v h H5 ∧ env = [some (.agg #[.func (.func fl) #[] cl, .func (.func fs) #[] cs]), some (.int .i64 (a' : Nat)), some (.int .i64 (b' : Nat)), some (.int .i64 ((rd lt dk a' b' lim wb wp).lim : Nat)), some (.agg #[.func (.func fl) #[] cl, .func (.func fs) #[] cs]), some (.bool wb), some (.bool wp), some (.int .i64 (b' - a' : Nat)), some (.int .i64 ((rd lt dk a' b' lim wb wp).pivot : Nat)), none, none, none, none, none, none, none, none, none, none, none, none, none, none, none, none, none, none, none, none]) ?_ ?_
  rotate_left
  · by_cases hc : (wb && wp && decide ((rd lt dk a' b' lim wb wp).hint = .increasing)) = true
    · have hpi := rd_pi_yes hc
      have hc' := hc
      simp only [Bool.and_eq_true, decide_eq_true_eq] at hc'
      obtain ⟨⟨rfl, rfl⟩, hinc⟩ := hc'
      have hz := hintZ_one.2 hinc
      refine sw1 @hz ?_
      refine i_call H103 ⟨F, v, fl, fs, cl, cs, lt, _, a', b', rfl, by rw [s2]; exact hSk, hR4, oM, oM, fun H5 hR5 hk5 => ?_⟩
      rw [← hpi] at hR5 ⊢
      cases hp2 : (rd lt dk a' b' lim true true).pi.2 with
      | true =>
        rw [pdq_done h12 hl0 hp2] at hK
        refine sw0 ?_
        exact hK H5 hR5 (hkv4.trans hk5)
      | false =>
        refine sw0 ?_
        exact k_meet _ sE ⟨hR5, hkv4.trans hk5, rfl⟩
    · have hc0 : (wb && wp && decide ((rd lt dk a' b' lim wb wp).hint = .increasing)) = false := by simpa using hc
      have hpi := rd_pi_no hc0
      have e1 : (rd lt dk a' b' lim wb wp).pi.1 = (rd lt dk a' b' lim wb wp).d2 := by rw [hpi]
      have e2 : (rd lt dk a' b' lim wb wp).pi.2 = false := by rw [hpi]
      rw [← e1] at hR4
      cases wb with
      | false =>
        refine sw0 ?_
        exact k_meet _ sE ⟨e2, hR4, hkv4, rfl⟩
      | true =>
        cases wp with
        | false =>
          refine sw0 ?_
          exact k_meet _ sE ⟨e2, hR4, hkv4, rfl⟩
        | true =>
          have hz : (hintZ (rd lt dk a' b' lim true true).hint = 1) = False := by
            rw [eq_iff_iff, iff_false]
            intro e
            exact hc (by simp [hintZ_one.1 e])
          refine sw1 @hz ?_
          exact k_meet _ sE ⟨e2, hR4, hkv4, rfl⟩
  clear hR4 hkv4
  rintro env H5 ⟨hp2, hR5, hkv5, rfl⟩
  have hsz5 : (rd lt dk a' b' lim wb wp).pi.1.size = d.size := s3.trans hsk
  have hS5 : So N Γ F v fl fs cl cs lt (rd lt dk a' b' lim wb wp).pi.1.size := by rw [hsz5]; exact hS
  have hpvs : (rd lt dk a' b' lim wb wp).pivot < d.size := oM
  have hwp1 : a' ≠ 0 → IntKind.i64.wrap ((a' : Int) - 1) = ((a' - 1 : Nat) : Int) := fun h0 => by rw [w64 oM oM]; omega
  refine i_seqm (fun env H6 => (decide (a' > 0) && !lt (rd lt dk a' b' lim wb wp).pi.1[a' - 1]! (rd lt dk a' b' lim wb wp).pi.1[(rd lt dk a' b' lim wb wp).pivot]!) = false ∧ Rw F H6 v (rd lt dk a' b' lim wb wp).pi.1 ∧ kv v h H6 ∧ env = [some (.agg #[.func (.func fl) #[] cl, .func (.func fs) #[] cs]), some (.int .i64 (a' : Nat)), some (.int .i64 (b' : Nat)), some (.int .i64 ((rd lt dk a' b' lim wb wp).lim : Nat)), some (.agg #[.func (.func fl) #[] cl, .func (.func fs) #[] cs]), some (.bool wb), some (.bool wp), some (.int .i64 (b' - a' : Nat)), some (.int .i64 ((rd lt dk a' b' lim wb wp).pivot : Nat)), none, none, none, none, none, none, none, none, none, none, none, none, none, none, none, none, none, none, none, none]) ?_ ?_
  rotate_left
  · by_cases ha0 : a' = 0
    · have h0 : ((0 : Int) < (a' : Int)) = False := by rw [eq_iff_iff]; simp; omega
      refine sw1 @h0 ?_
      exact k_meet _ sE ⟨by subst ha0; rfl, hR5, hkv5, rfl⟩
    have h0 : ((0 : Int) < (a' : Int)) = True := by rw [eq_iff_iff]; simp; omega
    have hw0 := hwp1 ha0
    refine sw2 @h0 @hw0 ?_
    refine hS.less H5 (rd lt dk a' b' lim wb wp).pi.1 (a' - 1) (rd lt dk a' b' lim wb wp).pivot _ hsz5 hR5 oM oM fun H6 hle6 => ?_
    cases hl : lt (rd lt dk a' b' lim wb wp).pi.1[a' - 1]! (rd lt dk a' b' lim wb wp).pi.1[(rd lt dk a' b' lim wb wp).pivot]! with
    | true =>
      refine sw0 ?_
      exact k_meet _ sE ⟨hR5.le hle6, hkv5.trans (kv.of_le hle6), rfl⟩
    | false =>
      have h87 : (decide (a' > 0) && !lt (rd lt dk a' b' lim wb wp).pi.1[a' - 1]! (rd lt dk a' b' lim wb wp).pi.1[(rd lt dk a' b' lim wb wp).pivot]!) = true := by rw [hl]; simp; omega
      obtain ⟨mid, d4, hx⟩ : ∃ mid d4, (partitionEqual lt (rd lt dk a' b' lim wb wp).pi.1 a' b' (rd lt dk a' b' lim wb wp).pivot) = (mid, d4) := ⟨_, _, rfl⟩
      obtain ⟨r1, r2, r3, r4, _⟩ := round_eq hO (partitionEqual_holds lt) (show 0 < a' by omega) hpv.1 hpv.2 (show b' ≤ (rd lt dk a' b' lim wb wp).pi.1.size by omega) B3 hl hx
      refine sw0 ?_
      refine i_call H104 ⟨F, v, fl, fs, cl, cs, lt, (rd lt dk a' b' lim wb wp).pi.1, a', b', (rd lt dk a' b' lim wb wp).pivot, rfl, hS5, hR5.le hle6, oM, oM, oM, fun H7 hR7 hk7 => ?_⟩
      rw [hx] at hR7 ⊢
      have hnx := pdq_eq h12 hl0 hp2 h87 (by rw [hx]; exact ⟨r1, r2⟩)
      rw [hx] at hnx
      refine sw0 ?_
      exact k_loop (mid, b', (rd lt dk a' b' lim wb wp).lim, wb, wp, d4) dM (by dsimp only; try simp only [Pf]) ⟨dM, dM, hbb, dM, dM, r4, hR7, (hkv5.trans (kv.of_le hle6)).trans hk7, by rw [← hP, hnx]⟩
  clear hR5 hkv5
  rintro env H6 ⟨h87, hR6, hkv6, rfl⟩
  obtain ⟨mid, ap, d4, hx⟩ : ∃ mid ap d4, (partition lt (rd lt dk a' b' lim wb wp).pi.1 a' b' (rd lt dk a' b' lim wb wp).pivot) = (mid, ap, d4) := ⟨_, _, _, rfl⟩
  obtain ⟨r1, r2, r3, r4, r5, r6, r7⟩ := round_part hO (partition_holds lt) hpv.1 hpv.2 (show b' ≤ (rd lt dk a' b' lim wb wp).pi.1.size by omega) B3 hx
  have hs4 : d4.size = d.size := r3.trans hsz5
  have hS4 : So N Γ F v fl fs cl cs lt d4.size := by rw [hs4]; exact hS
  refine sw0 ?_
  refine i_call H105 ⟨F, v, fl, fs, cl, cs, lt, (rd lt dk a' b' lim wb wp).pi.1, a', b', (rd lt dk a' b' lim wb wp).pivot, rfl, hS5, hR6, oM, oM, oM, fun H7 hR7 hk7 => ?_⟩
  rw [hx] at hR7 ⊢
  have hkv7 := hkv6.trans hk7
  have hwl : IntKind.i64.wrap ((mid : Int) - a') = ((mid - a' : Nat) : Int) := by rw [w64 oM oM]; omega
  have hwr : IntKind.i64.wrap ((b' : Int) - mid) = ((b' - mid : Nat) : Int) := by rw [w64 oM oM]; omega
  have hw8 : Int.tdiv ((b' - a' : Nat) : Int) 8 = (((b' - a') / 8 : Nat) : Int) := rfl
  have hwm : IntKind.i64.wrap ((mid : Int) + 1) = ((mid + 1 : Nat) : Int) := by rw [w64 oM oM]; omega
  refine sw3 @hwl @hwr @hw8 ?_
  by_cases h4 : mid - a' < b' - mid
  · have h4' : (((mid - a' : Nat) : Int) < ((b' - mid : Nat) : Int)) = True := by rw [eq_iff_iff]; simp; omega
    have hnx := pdq_left h12 hl0 hp2 h87 (by rw [hx]; exact ⟨r1, r2⟩) (by rw [hx]; exact h4)
    rw [hx] at hnx
    obtain ⟨pL, sL⟩ := pdq_sorts lt hO d4 a' mid (rd lt dk a' b' lim wb wp).lim true true r1 oM r4
    refine sw1 @h4' ?_
    refine i_call (H77 (mid - a') oM) ⟨F, v, fl, fs, cl, cs, lt, d4, a', mid, (rd lt dk a' b' lim wb wp).lim, rfl, hS4, hO, hR7, r1, oM, Nat.le_refl _, oM, r4, fun H8 hR8 hk8 => ?_⟩
    refine sw1 @hwm ?_
    exact k_loop (mid + 1, b', (rd lt dk a' b' lim wb wp).lim, decide (mid - a' ≥ (b' - a') / 8), ap, pdq lt d4 a' mid (rd lt dk a' b' lim wb wp).lim true true) dM (by dsimp only; try simp only [Pf]; exact congrArg Value.bool (decide_eq_decide.2 oM)) ⟨dM, dM, hbb, dM, pL.1.trans hs4, (r6 _ pL sL).1, hR8, hkv7.trans hk8, by rw [← hP, hnx]⟩
  · have h4' : (((mid - a' : Nat) : Int) < ((b' - mid : Nat) : Int)) = False := by rw [eq_iff_iff]; simp; omega
    have hnx := pdq_right h12 hl0 hp2 h87 (by rw [hx]; exact ⟨r1, r2⟩) (by rw [hx]; exact h4)
    rw [hx] at hnx
    obtain ⟨pL, sL⟩ := pdq_sorts lt hO d4 (mid + 1) b' (rd lt dk a' b' lim wb wp).lim true true oM oM r5
    refine sw2 @h4' @hwm ?_
    refine i_call (H77 (b' - (mid + 1)) oM) ⟨F, v, fl, fs, cl, cs, lt, d4, mid + 1, b', (rd lt dk a' b' lim wb wp).lim, rfl, hS4, hO, hR7, oM, oM, Nat.le_refl _, oM, r5, fun H8 hR8 hk8 => ?_⟩
    refine sw0 ?_
    exact k_loop (a', mid, (rd lt dk a' b' lim wb wp).lim, decide (b' - mid ≥ (b' - a') / 8), ap, pdq lt d4 (mid + 1) b' (rd lt dk a' b' lim wb wp).lim true true) dM (by dsimp only; try simp only [Pf]; exact congrArg Value.bool (decide_eq_decide.2 oM)) ⟨haa, dM, dM, dM, pL.1.trans hs4, (r7 _ pL sL).1, hR8, hkv7.trans hk8, by rw [← hP, hnx]⟩
end Go.Cw
namespace Go.Cw
open Go Go.Sort Go.Proofs
def befS (a b : Si) : Bool := if a.tag ≠ b.tag then Op.bytesLess a.tag b.tag else if a.time ≠ b.time then decide (a.time < b.time) else if a.place ≠ b.place then decide (a.place < b.place) else decide (a.strength < b.strength)
theorem befS_iff (a b : Si) : befS a b = true ↔ Op.bytesLess a.tag b.tag = true ∨ (a.tag = b.tag ∧ (a.time < b.time ∨ (a.time = b.time ∧ (a.place < b.place ∨ (a.place = b.place ∧ a.strength < b.strength))))) := by
  unfold befS
  by_cases h1 : a.tag = b.tag
  · rw [if_neg (by simp [h1]), h1, bless_irr]
    by_cases h2 : a.time = b.time
    · rw [if_neg (by simp [h2])]
      by_cases h3 : a.place = b.place
      · rw [if_neg (by simp [h3]), decide_eq_true_eq]; simp [h2, h3]
      · rw [if_pos h3, decide_eq_true_eq]; simp [h2, h3]
    · rw [if_pos h2, decide_eq_true_eq]; simp [h2]
  · rw [if_pos h1]; simp [h1]
theorem befS_irr (a : Si) : befS a a = false := by
  cases h : befS a a with
  | false => rfl
  | true =>
    have := (befS_iff a a).1 h
    rw [bless_irr] at this
    simp at this
theorem befS_trans {a b c : Si} (h1 : befS a b = true) (h2 : befS b c = true) : befS a c = true := by
  rw [befS_iff] at *
  rcases h1 with h1 | ⟨e1, h1⟩
  · rcases h2 with h2 | ⟨e2, _⟩
    · exact .inl (bless_trans h1 h2)
    · rw [← e2]; exact .inl h1
  · rcases h2 with h2 | ⟨e2, h2⟩
    · rw [e1]; exact .inl h2
    · exact .inr ⟨e1.trans e2, oM⟩
theorem befS_tot {a b : Si} (h1 : befS a b = false) (h2 : a ≠ b) : befS b a = true := by
  have h1' : ¬ befS a b = true := by rw [h1]; simp
  rw [befS_iff] at h1' ⊢
  by_cases e1 : a.tag = b.tag
  · refine .inr ⟨e1.symm, ?_⟩
    have h3 : ¬ (a.time < b.time ∨ (a.time = b.time ∧ (a.place < b.place ∨ (a.place = b.place ∧ a.strength < b.strength)))) := fun h => h1' (.inr ⟨e1, h⟩)
    have h4 : ¬ (a.time = b.time ∧ a.place = b.place ∧ a.strength = b.strength) := by
      rintro ⟨x1, x2, x3⟩
      exact h2 (by cases a; cases b; simp_all)
    omega
  · refine .inl (bless_tot ?_ e1)
    cases hb : Op.bytesLess a.tag b.tag with
    | false => rfl
    | true => exact absurd (.inl hb) h1'
theorem befS_anti {a b : Si} (h1 : befS a b = false) (h2 : befS b a = false) : a = b := by
  by_cases e : a = b
  · exact e
  · rw [befS_tot h1 e] at h2; cases h2
theorem befS_swo : SWO befS where
  irrefl := befS_irr
  trans := fun _ _ _ h1 h2 => befS_trans h1 h2
  ntrans := fun x y z h1 h2 => by
    cases h3 : befS x z with
    | false => rfl
    | true =>
      by_cases e : x = y
      · subst e; rw [h3] at h2; cases h2
      · rw [befS_trans (befS_tot h1 e) h3] at h2; cases h2
def ordS (l : List Si) : Prop := l.Pairwise fun a b => befS b a = false
theorem ordS_uniq : ∀ {l m : List Si}, ordS l → ordS m → l.Perm m → l = m := by
  intro l
  induction l with
  | nil => intro m _ _ hp; exact hp.nil_eq
  | cons x l ih =>
    intro m hl hm hp
    cases m with
    | nil => exact absurd hp.length_eq (by simp)
    | cons y m =>
      have h1 := List.pairwise_cons.1 hl
      have h2 := List.pairwise_cons.1 hm
      have hxy : x = y := by
        have hx : x ∈ y :: m := hp.subset (by simp)
        have hy : y ∈ x :: l := hp.symm.subset (by simp)
        rw [List.mem_cons] at hx hy
        rcases hx with e | hx
        · exact e
        · rcases hy with e | hy
          · exact e.symm
          · exact befS_anti (h2.1 x hx) (h1.1 y hy)
      subst hxy
      rw [ih h1.2 h2.2 hp.cons_inv]
theorem sorted_list {d d' : Array Si} (hp : PermIn 0 d.size d d') (hs : SortedIn befS 0 d.size d') : ordS d'.toList ∧ d'.toList.Perm d.toList := by
  have hsz : d'.size = d.size := hp.1
  constructor
  · refine List.pairwise_iff_getElem.2 fun i j hi hj hij => ?_
    simp only [Array.length_toList] at hi hj
    have := hs i j (Nat.zero_le _) hij oM
    rw [getElem!_pos d' j hj, getElem!_pos d' i hi] at this
    simpa using this
  · have := hp.2.2
    rwa [← hsz, Array.extract_size, hsz, Array.extract_size] at this
def posS (l : List Si) (s : Si) : Nat → Nat
  | 0 => 0
  | k + 1 => if befS s (l.getD k default) then posS l s k else k + 1
def insS (l : List Si) (s : Si) : List Si := l.take (posS l s l.length) ++ s :: l.drop (posS l s l.length)
theorem posS_le (l : List Si) (s : Si) : ∀ k, posS l s k ≤ k := by
  intro k
  induction k with
  | zero => simp [posS]
  | succ k ih => simp only [posS]; split <;> omega
theorem posS_spec (l : List Si) (s : Si) : ∀ k, (∀ i, posS l s k ≤ i → i < k → befS s (l.getD i default) = true) ∧ (0 < posS l s k → befS s (l.getD (posS l s k - 1) default) = false) := by
  intro k
  induction k with
  | zero => simp [posS]
  | succ k ih =>
    cases hb : befS s (l.getD k default) with
    | true =>
      have e : posS l s (k + 1) = posS l s k := by simp only [posS]; rw [if_pos hb]
      rw [e]
      refine ⟨fun i h1 h2 => ?_, ih.2⟩
      by_cases hi : i < k
      · exact ih.1 i h1 hi
      · have : i = k := oM
        subst this; exact hb
    | false =>
      have e : posS l s (k + 1) = k + 1 := by simp only [posS]; rw [if_neg (by rw [hb]; simp)]
      rw [e]
      exact ⟨fun i h1 h2 => by omega, fun _ => by simpa using hb⟩
theorem insS_perm (l : List Si) (s : Si) : (insS l s).Perm (s :: l) := by
  unfold insS
  refine List.perm_middle.trans (List.Perm.cons s ?_)
  rw [List.take_append_drop]
theorem ordS_ins {l : List Si} (s : Si) (h : ordS l) : ordS (insS l s) := by
  have hsp := posS_spec l s l.length
  have hle := posS_le l s l.length
  generalize hp : posS l s l.length = p at *
  unfold insS
  rw [hp]
  have hT : ∀ x ∈ l.take p, befS s x = false := by
    intro x hx
    obtain ⟨i, hi, rfl⟩ := List.getElem_of_mem hx
    rw [List.length_take] at hi
    rw [List.getElem_take]
    have h1 := hsp.2 oM
    by_cases hil : i = p - 1
    · subst hil
      rw [List.getD_eq_getElem?_getD, List.getElem?_eq_getElem oM] at h1
      exact h1
    · have h2 := List.pairwise_iff_getElem.1 h i (p - 1) oM oM oM
      rw [List.getD_eq_getElem?_getD, List.getElem?_eq_getElem oM] at h1
      exact befS_swo.ntrans _ _ _ h1 h2
  have hD : ∀ x ∈ l.drop p, befS x s = false := by
    intro x hx
    obtain ⟨i, hi, rfl⟩ := List.getElem_of_mem hx
    rw [List.length_drop] at hi
    rw [List.getElem_drop]
    have h1 := hsp.1 (p + i) oM oM
    rw [List.getD_eq_getElem?_getD, List.getElem?_eq_getElem oM] at h1
    cases hb : befS l[p + i] s with
    | false => rfl
    | true => have := befS_trans h1 hb; rw [befS_irr] at this; cases this
  refine List.pairwise_append.2 ⟨h.sublist (List.take_sublist _ _), List.pairwise_cons.2 ⟨hD, h.sublist (List.drop_sublist _ _)⟩, fun a ha b hb => ?_⟩
  rw [List.mem_cons] at hb
  rcases hb with rfl | hb
  · exact hT a ha
  · have h3 := List.pairwise_append.1 (show (l.take p ++ l.drop p).Pairwise fun a b => befS b a = false by rw [List.take_append_drop]; exact h)
    exact h3.2.2 a ha b hb
def ofL (l : List Si) : List Si := l.foldl insS []
theorem ofL_snoc (l : List Si) (s : Si) : ofL (l ++ [s]) = insS (ofL l) s := by simp [ofL]
theorem ofL_ord (l : List Si) : ordS (ofL l) ∧ (ofL l).Perm l := by
  induction l using snoc_ind with
  | h0 => simp [ofL, ordS]
  | hs l s ih =>
    rw [ofL_snoc]
    refine ⟨ordS_ins s ih.1, (insS_perm _ _).trans (((List.perm_cons s).2 ih.2).trans ?_)⟩
    exact (List.perm_append_comm (l₁ := [s]) (l₂ := l))
theorem sorted_ofL {d d' : Array Si} (hp : PermIn 0 d.size d d') (hs : SortedIn befS 0 d.size d') : d'.toList = ofL d.toList := by
  obtain ⟨h1, h2⟩ := sorted_list hp hs
  obtain ⟨h3, h4⟩ := ofL_ord d.toList
  exact ordS_uniq h1 h3 (h2.trans h4.symm)
end Go.Cw
namespace Go.Cw
open Go Go.Sort Go.Proofs
def aggS (s : Si) : Value := .agg #[.int .i64 s.place, .int .i64 s.strength, .int .i64 s.time, .string (str s.tag)]
def S63 : Spec := fun args h K => ∃ a b, args = [aggS a, aggS b] ∧ K (.bool (befS a b)) h
theorem F63_ok {N : Num} {Γ : Ctx} [GoodC Γ] : Sat S63 (SF N Γ F63) := by
  rintro _ h K ⟨a, b, rfl, hK⟩
  unfold befS at hK
  refine i_fun rfl ?_
  simp only [F63, Ze, Nat.reduceSub, Nat.reduceAdd, aggS]
  refine sw0 ?_
  refine i_cond (fun c1 => ?_) (fun c1 => ?_)
  · rw [if_pos c1] at hK
    refine sw0 ?_
    exact hK
  rw [if_neg c1] at hK
  refine sw0 ?_
  refine i_cond (fun c2 => ?_) (fun c2 => ?_)
  · rw [if_pos c2] at hK
    refine sw0 ?_
    exact hK
  rw [if_neg c2] at hK
  refine sw0 ?_
  refine i_cond (fun c3 => ?_) (fun c3 => ?_)
  · rw [if_pos c3] at hK
    refine sw0 ?_
    exact hK
  rw [if_neg c3] at hK
  refine sw0 ?_
  exact hK
def S62 : Spec := fun args h K => ∃ b v l, ∃ i j : Nat, args = [.int .i64 i, .int .i64 j, .pointer (some ⟨b, 0, none⟩)] ∧ h.cell ⟨b, 0, none⟩ = some v ∧ Sl Si.enc h v l ∧ i < l.length ∧ j < l.length ∧ K (.bool (befS (l.getD i default) (l.getD j default))) h
theorem F62_ok {N : Num} {Γ : Ctx} [GoodC Γ] (H63 : Sat S63 (Γ 63)) : Sat S62 (SF N Γ F62) := by
  rintro _ h K ⟨b, v, l, i, j, rfl, hc, hS, hi, hj, hK⟩
  refine i_fun rfl ?_
  simp only [F62, Ze, Nat.reduceSub, Nat.reduceAdd]
  have R := hS.rules 4 Si.enc_len default
  refine sw2 @hc @R ?_
  refine i_call H63 ⟨l.getD i default, l.getD j default, rfl, ?_⟩
  refine sw0 ?_
  exact hK
def clos (size late now : Nat) : Nat := (now - late) / size
theorem clos_iff {size late now k : Nat} (hs : 0 < size) : (k + 1) * size + late ≤ now ↔ k < clos size late now := by
  unfold clos
  rw [Nat.lt_iff_add_one_le, Nat.le_div_iff_mul_le hs]
  have : size ≤ (k + 1) * size := Nat.le_mul_of_pos_left size oM
  omega
theorem clos_le {size late now : Nat} : clos size late now ≤ now := Nat.le_trans (Nat.div_le_self _ _) oM
end Go.Cw
namespace Go.Cw
open Go Go.Sort Go.Proofs
def ep (size : Nat) (s : Si) : Nat := s.time.toNat / size
def enc5 (size : Nat) (s : Si) : List Value := [.int .i64 s.place, .int .i64 s.strength, .int .i64 s.time, .string (str s.tag), .int .i64 (ep size s : Nat)]
theorem enc5_len (size : Nat) (s : Si) : (enc5 size s).length = 5 := rfl
theorem Sl.row4 {size : Nat} {h : Heap} {v : Value} {A : List Si} (hs : Sl (enc5 size) h v A) {i : Nat} (hi : i < A.length) : h.row ((elt v (i * 5)).add 0) 4 = some #[.int .i64 (A.getD i default).place, .int .i64 (A.getD i default).strength, .int .i64 (A.getD i default).time, .string (str (A.getD i default).tag)] := by
  have R := hs.rules 5 (enc5_len size) default
  have h5 := R.2.2.1 i hi
  obtain ⟨a, cap, rfl, _, hr⟩ := hs
  rcases hr with e | ⟨g, rfl, hrow⟩
  · rw [e] at hi; cases hi
  have hl : (A.flatMap (enc5 size)).length = A.length * 5 := flat_len (enc5_len size) A
  have h5' := hrow.row (i := i * 5) (n := 5) oM
  have h4 := hrow.row (i := i * 5) (n := 4) oM
  have e1 : elt (.slice (some g) A.length cap) (i * 5) = g.add (i * 5) := rfl
  rw [e1] at h5 ⊢
  rw [h5'] at h5
  simp only [Option.some.injEq] at h5
  have h6 : ((A.flatMap (enc5 size)).drop (i * 5)).take 5 = enc5 size (A.getD i default) := by
    have := congrArg Array.toList h5; simpa using this
  rw [addr_zero, h4]
  have h7 : ((A.flatMap (enc5 size)).drop (i * 5)).take 4 = (enc5 size (A.getD i default)).take 4 := by
    rw [← h6, List.take_take]; rfl
  rw [h7]; rfl
def ofE (size : Nat) (A : List Si) (n : Nat) : List Si := ofL (A.filter fun s => decide (ep size s = n))
theorem ofL_len (l : List Si) : (ofL l).length = l.length := (ofL_ord l).2.length_eq
end Go.Cw
namespace Go.Cw
open Go
end Go.Cw
namespace Go.Cw
open Go
theorem bestTo_spec (need : Nat) (cnt : Int → Nat) (st : Int → Int) : ∀ n : Nat, (bestTo need cnt st n = -1 ∧ ∀ p : Int, 0 ≤ p → p < n → cnt p < need) ∨ (0 ≤ bestTo need cnt st n ∧ bestTo need cnt st n < n ∧ need ≤ cnt (bestTo need cnt st n)) := by
  intro n
  induction n with
  | zero => exact .inl ⟨rfl, fun p h1 h2 => absurd h1 (by simp at h2; omega)⟩
  | succ n ih =>
    simp only [bestTo]
    split
    · rename_i h
      rcases ih with ⟨h1, h2⟩ | ⟨h1, h2, h3⟩
      · refine .inl ⟨h1, fun p h3 h4 => ?_⟩
        by_cases e : p = n
        · rw [e]; exact h
        · exact h2 p h3 oM
      · exact .inr ⟨h1, oM, h3⟩
    · rename_i h
      split
      · exact .inr ⟨oM, oM, oM⟩
      · rename_i h4
        rcases ih with ⟨h1, h2⟩ | ⟨h1, h2, h3⟩
        · omega
        · exact .inr ⟨h1, oM, h3⟩
structure RowI (who : List UInt8) (R : List (List Si)) (p : Int) (sn at_ one : Int) (single : Bool) : Prop where
  cnt : at_ = cntE R who p
  hn : sn = (R.filter fun l => !l.isEmpty).length
  ho : (one = -1 ∧ ∀ l ∈ R, l = []) ∨ ∃ l ∈ R, ∃ s ∈ l, s.place = one
  sg : single = true → ∀ l ∈ R, ∀ s ∈ l, s.place = one
structure RowJ (who : List UInt8) (R : List (List Si)) (row : List Si) (p : Int) (sn at_ one : Int) (single here : Bool) : Prop where
  cnt : at_ = cntE R who p
  hn : sn = (R.filter fun l => !l.isEmpty).length
  ho : (one = -1 ∧ ∀ l ∈ R ++ [row], l = []) ∨ ∃ l ∈ R ++ [row], ∃ s ∈ l, s.place = one
  sg : single = true → ∀ l ∈ R ++ [row], ∀ s ∈ l, s.place = one
  hr : here = true ↔ ∃ s ∈ row, s.place = p
theorem RowI.j {who : List UInt8} {R : List (List Si)} {p sn at_ one : Int} {single : Bool} (h : RowI who R p sn at_ one single) : RowJ who R [] p sn at_ one single false := by
  refine ⟨h.cnt, h.hn, ?_, ?_, by simp⟩
  · rcases h.ho with ⟨h1, h2⟩ | ⟨l, hl, s, hs, e⟩
    · refine .inl ⟨h1, fun l hl => ?_⟩
      rw [List.mem_append, List.mem_singleton] at hl
      exact hl.elim (h2 l) id
    · exact .inr ⟨l, by simp [hl], s, hs, e⟩
  · intro hs l hl s hsl
    rw [List.mem_append, List.mem_singleton] at hl
    rcases hl with hl | rfl
    · exact h.sg hs l hl s hsl
    · cases hsl
theorem RowJ.step {who : List UInt8} {R : List (List Si)} {row : List Si} {p sn at_ one : Int} {single here : Bool} (h : RowJ who R row p sn at_ one single here) (s : Si) {single' here' : Bool} (h0 : ∀ l ∈ R ++ [row], ∀ s ∈ l, 0 ≤ s.place)
    (h1 : single' = true → single = true ∧ (one < 0 ∨ one = s.place)) (h2 : here' = true ↔ here = true ∨ s.place = p) : RowJ who R (row ++ [s]) p sn at_ s.place single' here' := by
  refine ⟨h.cnt, h.hn, .inr ⟨row ++ [s], by simp, s, by simp, rfl⟩, fun hs l hl x hx => ?_, ?_⟩
  · obtain ⟨k1, k2⟩ := h1 hs
    have hmem : (∃ l' ∈ R ++ [row], x ∈ l') ∨ x = s := by
      rw [List.mem_append, List.mem_singleton] at hl
      rcases hl with hl | rfl
      · exact .inl ⟨l, by simp [hl], hx⟩
      · rw [List.mem_append, List.mem_singleton] at hx
        exact hx.imp (fun hx => ⟨row, by simp, hx⟩) id
    rcases hmem with ⟨l', hl', hx'⟩ | rfl
    · have e := h.sg k1 l' hl' x hx'
      have := h0 l' hl' x hx'
      omega
    · rfl
  · rw [h2, h.hr]
    constructor
    · rintro (⟨x, hx, e⟩ | e)
      · exact ⟨x, by simp [hx], e⟩
      · exact ⟨s, by simp, e⟩
    · rintro ⟨x, hx, e⟩
      rw [List.mem_append, List.mem_singleton] at hx
      rcases hx with hx | rfl
      · exact .inl ⟨x, hx, e⟩
      · exact .inr e
theorem RowJ.i {who : List UInt8} {R : List (List Si)} {row : List Si} {p sn at_ one : Int} {single here : Bool} (h : RowJ who R row p sn at_ one single here) (hw : ∀ s ∈ row, s.tag = who) :
    RowI who (R ++ [row]) p (sn + if 0 < row.length then 1 else 0) (at_ + if here = true then 1 else 0) one single := by
  refine ⟨?_, ?_, h.ho, h.sg⟩
  · rw [cntE_snoc, h.cnt]
    have : here = true ↔ seen row who p := by
      rw [h.hr]; exact ⟨fun ⟨s, hs, e⟩ => ⟨s, hs, hw s hs, e⟩, fun ⟨s, hs, _, e⟩ => ⟨s, hs, e⟩⟩
    by_cases e : seen row who p
    · rw [if_pos (this.2 e), if_pos e]; rfl
    · rw [if_neg (fun h => e (this.1 h)), if_neg e]; rfl
  · rw [List.filter_append, List.length_append, h.hn]
    cases row <;> simp
theorem RowI.zero (who : List UInt8) (p : Int) : RowI who [] p 0 0 (-1) true := ⟨rfl, rfl, .inl ⟨rfl, by simp⟩, by simp⟩
theorem RowI.law {who : List UInt8} {R : List (List Si)} {window need : Nat} {EL : List (List Si)} {sn at_ one : Int} {single : Bool} (hR : R = EL.drop (EL.length - window)) (h : RowI who R (atE window need EL who) sn at_ one single) (hn : 1 ≤ need)
    (hg : ∀ l ∈ R, ∀ s ∈ l, 0 ≤ s.place ∧ s.place ≤ 7) (hw : ∀ l ∈ R, ∀ s ∈ l, s.tag = who) :
    ¬ ((0 ≤ atE window need EL who ∧ at_ < need) ∨ (single = true ∧ (need : Int) ≤ sn ∧ atE window need EL who ≠ one) ∨ (single = true ∧ sn < need ∧ 0 ≤ atE window need EL who)) := by
  have hA : atE window need EL who = bestTo need (cntE R who) (strE R who) 8 := by rw [hR]; rfl
  have hsp := bestTo_spec need (cntE R who) (strE R who) 8
  rw [← hA] at hsp
  generalize atE window need EL who = p at *
  have hcs : ∀ q, (cntE R who q : Int) ≤ sn := by
    intro q
    rw [h.hn]
    have : cntE R who q ≤ (R.filter fun l => !l.isEmpty).length := by
      unfold cntE
      rw [← List.countP_eq_length_filter, ← List.countP_eq_length_filter]
      refine List.countP_mono_left fun l _ hl => ?_
      obtain ⟨s, hs, _⟩ := of_decide_eq_true hl
      cases l with
      | nil => cases hs
      | cons a l => rfl
    exact_mod_cast this
  rintro (⟨h1, h2⟩ | ⟨h1, h2, h3⟩ | ⟨h1, h2, h3⟩)
  · rw [h.cnt] at h2; omega
  · have hso : ∀ l ∈ R, ∀ s ∈ l, s.place = one := h.sg h1
    have hcnt : (cntE R who one : Int) = sn := by
      rw [h.hn]; unfold cntE
      congr 2
      refine List.filter_congr fun l hl => ?_
      cases l with
      | nil => simp [seen]
      | cons a l => simp only [List.isEmpty_cons, Bool.not_false, decide_eq_true_eq]; exact ⟨a, by simp, hw _ hl a (by simp), hso _ hl a (by simp)⟩
    rcases h.ho with ⟨e, h4⟩ | ⟨l, hl, s, hs, e⟩
    · have : (R.filter fun l => !l.isEmpty) = [] := by
        rw [List.filter_eq_nil_iff]; intro l hl; simp [h4 l hl]
      have h5 := h.hn
      rw [this] at h5
      simp at h5; omega
    · have h5 := hg l hl s hs
      rw [e] at h5
      rcases hsp with ⟨h6, h7⟩ | ⟨h6, h7, h8⟩
      · have := h7 one oM oM; omega
      · have h9 : 0 < cntE R who p := oM
        unfold cntE at h9
        obtain ⟨l', hl'⟩ := List.exists_mem_of_length_pos h9
        rw [List.mem_filter] at hl'
        obtain ⟨x, hx, _, hp⟩ := of_decide_eq_true hl'.2
        have := hso l' hl'.1 x hx
        omega
  · rcases hsp with ⟨h6, h7⟩ | ⟨h6, h7, h8⟩
    · omega
    · have := hcs p; omega
end Go.Cw
namespace Go.Cw
open Go
def IsB (need : Nat) (cnt : Int → Nat) (st : Int → Int) (lo hi : Int) (b : Int) : Prop :=
  (b = -1 ∧ ∀ p, lo ≤ p → p < hi → cnt p < need) ∨ (lo ≤ b ∧ b < hi ∧ need ≤ cnt b ∧ ∀ p, lo ≤ p → p < hi → need ≤ cnt p → cnt p < cnt b ∨ (cnt p = cnt b ∧ (st p < st b ∨ (st p = st b ∧ b ≤ p))))
theorem IsB.uniq {need : Nat} {cnt : Int → Nat} {st : Int → Int} {lo hi b c : Int} (hb : IsB need cnt st lo hi b) (hc : IsB need cnt st lo hi c) : b = c := by
  rcases hb with ⟨h1, h2⟩ | ⟨h1, h2, h3, h4⟩ <;> rcases hc with ⟨g1, g2⟩ | ⟨g1, g2, g3, g4⟩
  · rw [h1, g1]
  · have := h2 c g1 g2; omega
  · have := g2 b h1 h2; omega
  · have a := h4 c g1 g2 g3
    have b := g4 b h1 h2 h3
    omega
end Go.Cw
namespace Go.Cw
open Go
def CacheOk (kv : List (List UInt8 × Int)) (window need : Nat) (E : List (List Si)) : Prop :=
  ∀ k p, look kv k = some p → ∃ tag e, k = keyOf tag e ∧ e < E.length ∧ p = atE window need (E.take (e + 1)) tag
structure RTp (g : Heap) (b window need : Nat) (E : List (List Si)) (ev : Value) (vs : List Value) (mp : Nat) (kv : List (List UInt8 × Int)) (bs : List Nat) (ck : Nat) (g0 : Heap) : Prop where
  obj : objAt g ⟨b, 0, none⟩ [.int .i64 window, .int .i64 need, ev, .map (some mp)]
  evs : SlB encV 1 g ev vs
  vlen : vs.length = E.length
  le0 : Heap.le g0 g
  rows : ∀ i, i < E.length → Sl Si.enc g0 (vs.getD i undef) (E.getD i [])
  map : MapB encKS encKI g mp kv bs ck
  b0 : g0 b = none
  m0 : g0 mp = none
  e0 : ∀ x, blkOf ev = some x → g0 x = none ∧ x ≠ b
  cache : CacheOk kv window need E
  elen : E.length ≤ 1000
  rlen : ∀ l ∈ E, l.length ≤ 2000
def RT (g : Heap) (b window need : Nat) (E : List (List Si)) : Prop := ∃ ev vs mp kv bs ck g0, RTp g b window need E ev vs mp kv bs ck g0
theorem RTp.read {g h : Heap} {b window need : Nat} {E : List (List Si)} {ev : Value} {vs : List Value} {mp : Nat} {kv : List (List UInt8 × Int)} {bs : List Nat} {ck : Nat} {g0 : Heap} (hT : RTp g b window need E ev vs mp kv bs ck g0) (hg : Heap.le g h) : RTr h ⟨b, 0, none⟩ window need E :=
  ⟨ev, _, hT.obj.le hg, ⟨vs, SlB.sl (enc := encV) (fun _ => rfl) (hT.evs.le hg), hT.vlen, fun i hi => (hT.rows i hi).le (hT.le0.trans hg)⟩, hT.elen, hT.rlen⟩
theorem RT.read {g h : Heap} {b window need : Nat} {E : List (List Si)} (hT : RT g b window need E) (hg : Heap.le g h) : RTr h ⟨b, 0, none⟩ window need E := by
  obtain ⟨ev, vs, mp, kv, bs, ck, g0, hT⟩ := hT
  exact hT.read hg
theorem RTp.put {g : Heap} {b window need : Nat} {E : List (List Si)} {ev : Value} {vs : List Value} {mp : Nat} {kv kv' : List (List UInt8 × Int)} {bs bs' : List Nat} {ck ck' : Nat} {g0 : Heap} (hT : RTp g b window need E ev vs mp kv bs ck g0) {o : Obj}
    (hm : MapB encKS encKI (g.set mp o) mp kv' bs' ck') (hc : CacheOk kv' window need E) : RTp (g.set mp o) b window need E ev vs mp kv' bs' ck' g0 := by
  have hmp := hT.map
  have hb : b ≠ mp := by
    intro e
    obtain ⟨_, c, t, h1, _⟩ := hT.obj
    obtain ⟨es, h2, _⟩ := hmp
    dsimp only at h1
    rw [e, h2] at h1; cases h1
  have hx : ∀ x, blkOf ev = some x → x ≠ mp := by
    intro x hx e
    obtain ⟨a, cap, rfl, _, _, h3⟩ := hT.evs
    rcases h3 with ⟨rfl, _⟩ | ⟨b', c, t, rfl, h3, _⟩
    · simp [blkOf] at hx
    · simp only [blkOf, Option.some.injEq] at hx
      obtain ⟨es, h2, _⟩ := hmp
      rw [hx, e, h2] at h3; cases h3
  exact ⟨hT.obj.set_ne hb, hT.evs.same fun x h => Heap.set_ne (hx x h), hT.vlen, fun x ob h => by
    have : x ≠ mp := by intro e; subst e; rw [hT.m0] at h; cases h
    rw [Heap.set_ne this]; exact hT.le0 x ob h, hT.rows, hm, hT.b0, hT.m0, hT.e0, hc, hT.elen, hT.rlen⟩
end Go.Cw
namespace Go.Cw
open Go
def whr (window need : Nat) (E : List (List Si)) (tag : List UInt8) (e : Int) : Int × Nat :=
  if e < 0 ∨ (E.length : Int) ≤ e then (0, 1) else if toldE E tag then (atE window need (E.take (e.toNat + 1)) tag, 0) else (0, 5)
def cms (window need : Nat) (E : List (List Si)) (tag : List UInt8) (p e : Int) : Bool :=
  if (whr window need E tag e).2 ≠ 0 ∨ p < 0 ∨ (whr window need E tag e).1 ≠ p then false else decide (e = 0 ∨ atE window need (E.take ((e - 1).toNat + 1)) tag ≠ p)
theorem S30_whr {N : Num} {h : Heap} {K : Value → Heap → Prop} {g : Heap} {b window need : Nat} {E : List (List Si)} {tag : List UInt8} {e : Int} (hT : TrO g b window need E) (hg : Heap.le g h)
    (hK : K (.tuple #[.int .i64 (whr window need E tag e).1, errV N (whr window need E tag e).2]) h) : S30 N [.pointer (some ⟨b, 0, none⟩), .string (str tag), .int .i64 e] h K := by
  unfold whr at hK
  refine ⟨g, b, window, need, E, tag, e, rfl, hT, hg, fun h1 => ?_, fun h1 h2 h3 => ?_, fun h1 h2 h3 => ?_⟩
  · rw [if_pos h1] at hK; exact hK
  · rw [if_neg oM, if_neg h3] at hK; exact hK
  · rw [if_neg oM, if_pos h3] at hK; exact hK
def S50 : Spec := fun args h K => ∃ g b window need E tag p e, args = [.pointer (some ⟨b, 0, none⟩), .string (str tag), .int .i64 p, .int .i64 e] ∧ TrO g b window need E ∧ Heap.le g h ∧ E.length ≤ 1000000 ∧
  K (.bool (cms window need E tag p e)) h
theorem F50_ok {N : Num} {Γ : Ctx} [GoodC Γ] (H30 : Sat (S30 N) (Γ 30)) : Sat S50 (SF N Γ F50) := by
  rintro _ h K ⟨g, b, window, need, E, tag, p, e, rfl, hT, hg, hel, hK⟩
  refine i_fun rfl ?_
  simp only [F50, Ze, Nat.reduceSub, Nat.reduceAdd]
  unfold cms at hK
  have hw : (whr window need E tag e).2 = 0 → 0 ≤ e ∧ e < E.length ∧ toldE E tag := by
    unfold whr
    split
    · simp
    · split
      · rename_i ht; intro _; exact ⟨oM, oM, ht⟩
      · simp
  refine sw0 ?_
  refine i_call H30 (S30_whr hT hg ?_)
  generalize hwr : whr window need E tag e = wr at *
  obtain ⟨q, f⟩ := wr
  dsimp only at hK hw ⊢
  refine sw1 (errV_eq N) ?_
  refine i_cond (fun c1 => ?_) (fun c1 => ?_)
  · rw [if_pos oM] at hK
    refine sw0 ?_
    exact hK
  · rw [if_neg oM] at hK
    obtain ⟨hw1, hw2, ht⟩ := hw oM
    obtain ⟨i, rfl⟩ : ∃ i : Nat, e = i := ⟨e.toNat, oM⟩
    by_cases h0 : i = 0
    · subst h0
      refine sw0 ?_
      simpa using hK
    · obtain ⟨j, rfl⟩ : ∃ j, i = j + 1 := ⟨i - 1, oM⟩
      have e1 : (((j + 1 : Nat) : Int) = 0) = False := by simp; omega
      refine sw1 @e1 ?_
      refine i_call H30 (S30_whr (e := (j : Nat)) hT hg ?_)
      have hwj : whr window need E tag (j : Nat) = (atE window need (E.take (j + 1)) tag, 0) := by
        unfold whr
        rw [if_neg oM, if_pos ht]; rfl
      rw [hwj]
      refine sw0 ?_
      have e2 : ((((j + 1 : Nat) : Int) - 1).toNat + 1) = j + 1 := oM
      rw [e2] at hK
      have e3 : decide (((j + 1 : Nat) : Int) = 0 ∨ atE window need (List.take (j + 1) E) tag ≠ p) = decide (atE window need (List.take (j + 1) E) tag ≠ p) := by rw [Bool.eq_iff_iff]; simp [e1]; omega
      rw [e3] at hK
      simpa using hK
end Go.Cw
namespace Go.Cw
open Go
theorem Step.grow {g h h2 g3 h3 F : Heap} (hl : Heap.le h h2) (a : Step g h2 g3 h3) (hF : Heap.le F h3) (hn : ∀ b, h b ≠ none → F b = none) : Step g h (join g3 F) h3 := by
  refine ⟨join_le a.le hF, fun b o h1 h2 => a.frame b o (hl b o h1) h2, fun b h1 h2 => ?_⟩
  refine join_none (a.fresh b ?_ h2) (hn b h1)
  cases hb : h b with
  | none => exact absurd hb h1
  | some o => rw [hl b o hb]; simp
end Go.Cw
namespace Go.Cw
open Go Go.Sort Go.Proofs
def encEp (e : Nat × Value) : List Value := [.int .i64 (e.1 : Nat), e.2]
theorem encEp_len (e : Nat × Value) : (encEp e).length = 2 := rfl
structure OutP (Gf H : Heap) (v : Value) (L : List (Nat × List Si)) (es : List (Nat × Value)) (Z : Heap) : Prop where
  sl : SlB encEp 2 H v es
  own : ∀ b, blkOf v = some b → Gf b = none ∧ Z b = none
  le : Heap.le Z H
  fz : ∀ b, Z b ≠ none → Gf b = none
  len : es.length = L.length
  el : ∀ i, i < L.length → (es.getD i default).1 = (L.getD i default).1 ∧ Sl Si.enc Z (es.getD i default).2 (L.getD i default).2 ∧ Cw.one (es.getD i default).2 = true
def Outs (Gf H : Heap) (v : Value) (L : List (Nat × List Si)) : Prop := ∃ es Z, OutP Gf H v L es Z
theorem Outs.nil {Gf H : Heap} : Outs Gf H (.slice none 0 0) [] := ⟨[], fun _ => none, SlB.nil, by simp [blkOf], fun _ _ h => (by cases h), fun _ h => absurd rfl h, rfl, fun i hi => by simp at hi⟩
theorem Outs.mono {Gf H H' : Heap} {v : Value} {L : List (Nat × List Si)} (a : Outs Gf H v L) (hl : Heap.le H H') : Outs Gf H' v L := by
  obtain ⟨es, Z, h⟩ := a
  exact ⟨es, Z, { h with sl := h.sl.le hl, le := h.le.trans hl }⟩
theorem i_push {N : Num} {Γ : Ctx} {Gf H Z2 : Heap} {v x : Value} {L : List (Nat × List Si)} {t n : Nat} {sv : Value} {l : List Si} (a : Outs Gf H v L) (hx : Sl encEp H x [(n, sv)]) (hG : Heap.le Gf H) (hZ : Heap.le Z2 H) (hZf : ∀ b, Z2 b ≠ none → Gf b = none) (hZv : ∀ b, blkOf v = some b → Z2 b = none) (hs : Sl Si.enc Z2 sv l) (h1 : Cw.one sv = true) (hlen : L.length ≤ 10000) {K : Value → Heap → Prop}
    (hK : ∀ v' H', Outs Gf H' v' (L ++ [(n, l)]) → kv v H H' → K v' H') : efW N Γ (.app t 2 32) [v, x] H K := by
  obtain ⟨es, Z, h⟩ := a
  have hel := h.len
  refine i_appB (enc := encEp) (sz := 2) (g := H) (l := es) (l' := [(n, sv)]) encEp_len (by intro x hx; simp only [List.mem_singleton] at hx; subst hx; simp only [encEp, List.all_cons, List.all_nil, h1, Bool.and_true]; rfl) h.sl (Heap.le.refl H) hx (by simp; omega) fun v' H' g' hS' St' e1 e2 e3 => ?_
  have hfr : ∀ b, blkOf v' = some b → Gf b = none ∧ join Z Z2 b = none := by
    intro b hb
    rcases e2 b hb with h5 | h5
    · exact ⟨(h.own b h5).1, join_none (h.own b h5).2 (hZv b h5)⟩
    · exact ⟨le_none hG b h5, join_none (le_none h.le b h5) (le_none hZ b h5)⟩
  have hZH : Heap.le (join Z Z2) H := join_le h.le hZ
  have hnv : ∀ b, blkOf v = some b → join Z Z2 b = none := fun b hb => join_none (h.own b hb).2 (hZv b hb)
  have hZ' : Heap.le (join Z Z2) H' := by
    intro b o hb
    refine e3 b o (hZH b o hb) fun e => ?_
    rw [hnv b e] at hb; cases hb
  refine hK v' H' ⟨es ++ [(n, sv)], join Z Z2, ⟨hS'.le St'.le, hfr, hZ', fun b hb => ?_, by simp [hel], fun i hi => ?_⟩⟩ fun b o hb hne => e3 b o hb hne
  · simp only [join] at hb
    cases hz : Z b with
    | some o => exact h.fz b (by rw [hz]; simp)
    | none => rw [hz] at hb; exact hZf b (by simpa using hb)
  · by_cases hi2 : i < L.length
    · have g1 : (es ++ [(n, sv)]).getD i default = es.getD i default := by rw [List.getD_eq_getElem?_getD, List.getElem?_append_left oM, ← List.getD_eq_getElem?_getD]
      have g2 : (L ++ [(n, l)]).getD i default = L.getD i default := by rw [List.getD_eq_getElem?_getD, List.getElem?_append_left hi2, ← List.getD_eq_getElem?_getD]
      rw [g1, g2]
      obtain ⟨q1, q2, q3⟩ := h.el i hi2
      exact ⟨q1, q2.le (join_l _ _), q3⟩
    · have hie : i = L.length := by simp at hi; omega
      subst hie
      have g1 : (es ++ [(n, sv)]).getD L.length default = (n, sv) := by rw [← hel]; simp [List.getD]
      have g2 : (L ++ [(n, l)]).getD L.length default = (n, l) := by simp [List.getD]
      rw [g1, g2]
      exact ⟨rfl, hs.le (join_r (g := Z) h.le hZ), h1⟩
def rest (g h : Heap) : Heap := fun b => if g b = none then h b else none
theorem rest_le (g h : Heap) : Heap.le (rest g h) h := by
  intro b o hb; unfold rest at hb; split at hb
  · exact hb
  · cases hb
def closE (size late A0 A1 : Nat) (A : List Si) : List (Nat × List Si) := (List.range' (clos size late A0) (clos size late A1 - clos size late A0)).map fun k => (k, ofE size A k)
theorem range'_snoc (s n : Nat) : List.range' s (n + 1) = List.range' s n ++ [s + n] := by
  rw [List.range'_concat]; simp
end Go.Cw
namespace Go.Cw
open Go Go.Sort Go.Proofs
def adBad (now : Nat) (s : Si) : Prop := s.place < 0 ∨ 7 < s.place ∨ s.strength < 0 ∨ 255 < s.strength ∨ s.time < 0 ∨ (now : Int) < s.time ∨ s.tag.length ≠ 8
instance (now : Nat) (s : Si) : Decidable (adBad now s) := by unfold adBad; infer_instance
def adF (size late now : Nat) (s : Si) : Nat := if adBad now s then 1 else if ep size s < clos size late now then 6 else 0
end Go.Cw
namespace Go.Cw
open Go Go.Sort Go.Proofs
def opn (size late now : Nat) (A : List Si) (k : Nat) : List Si := if clos size late now ≤ k then A.filter (fun s => decide (ep size s = k)) else []
def vof (kv : List (Int × Value)) (n : Int) : Value := (look kv n).getD (.slice none 0 0)
structure PDp (g : Heap) (p size late now : Nat) (A : List Si) (mw : Nat) (kv : List (Int × Value)) (bs : List Nat) (ck : Nat) : Prop where
  obj : objAt g ⟨p, 0, none⟩ [.int .i64 size, .int .i64 late, .int .i64 now, .int .i64 (clos size late now : Nat), .map (some mw)]
  wm : MapB encKI id g mw kv bs ck
  pm : p ≠ mw
  no : ∀ k : Nat, look kv (k : Int) = none → opn size late now A k = []
  so : ∀ (n : Int) v, look kv n = some v → ∃ (k : Nat) (x : Nat), n = k ∧ blkOf v = some x ∧ x ≠ p ∧ x ≠ mw ∧ SlB Si.enc 4 g v (opn size late now A k)
  inj : ∀ n n' v v', look kv n = some v → look kv n' = some v' → blkOf v = blkOf v' → n = n'
def PD (g : Heap) (p size late now : Nat) (A : List Si) : Prop := ∃ mw kv bs ck, PDp g p size late now A mw kv bs ck
theorem MapB.lkpE {h : Heap} {m : Nat} {kv : List (Int × Value)} {bs : List Nat} {ck : Nat} (hm : MapB encKI id h m kv bs ck) (n : Int) : o2V h (.lkp .int (.slice none 0 0)) (.v (.map (some m))) (.v (.int .i64 n)) = some (.v (vof kv n)) := by
  have := (hm.rules .int).1 (.slice none 0 0) n
  rw [show (Value.int .i64 n) = encKI n from rfl, this]
  unfold vof
  cases look kv n <;> rfl
def epBad (size late : Int) : Prop := size < 1 ∨ 50 < size ∨ late < 0 ∨ 50 < late
def S33 (N : Num) : Spec := fun args h K => ∃ size late, args = [.int .i64 size, .int .i64 late] ∧ (epBad size late → K (.tuple #[.pointer none, errV N 1]) h) ∧
  (¬ epBad size late → ∀ p h', h p = none → Heap.le h h' → PD (fr h h') p size.toNat late.toNat 0 [] → K (.tuple #[.pointer (some ⟨p, 0, none⟩), .nilIface]) h')
theorem F33_ok {N : Num} {Γ : Ctx} [GoodC Γ] : Sat (S33 N) (SF N Γ F33) := by
  rintro _ h K ⟨size, late, rfl, hK1, hK2⟩
  unfold epBad at hK1 hK2
  refine i_fun rfl ?_
  simp only [F33, Ze, Nat.reduceSub, Nat.reduceAdd]
  refine sw0 ?_
  refine i_cond (fun c => ?_) (fun c => ?_)
  · refine sw0 ?_
    exact hK1 oM
  refine sw0 ?_
  refine i_mnew (ek := encKI) (ev := (id : Value → Value)) fun m h1 hm0 hle1 hmE => ?_
  refine sw0 ?_
  refine i_newO fun p h2 hle2 hp ho => ?_
  refine sw0 ?_
  have hpm : p ≠ m := by
    rintro rfl
    obtain ⟨es, q, _⟩ := hmE.le (fr_le _ _)
    rw [q] at hp; cases hp
  refine hK2 oM p h2 (le_none hle1 p hp) (hle1.trans hle2) ⟨m, [], [], 0, ?_, hmE.le (fr_mono hle2), hpm, fun k _ => by simp [opn], fun n v h => by simp [look_nil] at h, fun n n' v v' h => by simp [look_nil] at h⟩
  have h3 := ho.le (fr_fr hle1)
  have e1 : ((size.toNat : Nat) : Int) = size := oM
  have e2 : ((late.toNat : Nat) : Int) = late := oM
  have e3 : clos size.toNat late.toNat 0 = 0 := by simp [clos]
  rw [e1, e2, e3]
  exact h3
theorem PDp.read {g h : Heap} {p size late now : Nat} {A : List Si} {mw : Nat} {kv : List (Int × Value)} {bs : List Nat} {ck : Nat} (hP : PDp g p size late now A mw kv bs ck) (hg : Heap.le g h) :
    h.cell ((⟨p, 0, none⟩ : Addr).add 0) = some (.int .i64 size) ∧ h.cell ((⟨p, 0, none⟩ : Addr).add 1) = some (.int .i64 late) ∧ h.cell ((⟨p, 0, none⟩ : Addr).add 2) = some (.int .i64 now) ∧ h.cell ((⟨p, 0, none⟩ : Addr).add 3) = some (.int .i64 (clos size late now : Nat)) ∧ h.cell ((⟨p, 0, none⟩ : Addr).add 4) = some (.map (some mw)) := by
  have ho := hP.obj.le hg
  exact ⟨ho.rules.1 0 (by simp), ho.rules.1 1 (by simp), ho.rules.1 2 (by simp), ho.rules.1 3 (by simp), ho.rules.1 4 (by simp)⟩
def S39 : Spec := fun args h K => ∃ g p size late now A, args = [.pointer (some ⟨p, 0, none⟩)] ∧ PD g p size late now A ∧ Heap.le g h ∧ K (.int .i64 (now : Nat)) h
theorem F39_ok {N : Num} {Γ : Ctx} [GoodC Γ] : Sat S39 (SF N Γ F39) := by
  rintro _ h K ⟨g, p, size, late, now, A, rfl, ⟨mw, kv, bs, ck, hP⟩, hg, hK⟩
  obtain ⟨c0, c1, c2, c3, c4⟩ := hP.read hg
  refine i_fun rfl ?_
  simp only [F39, Ze, Nat.reduceSub, Nat.reduceAdd]
  refine sw1 @c2 ?_
  exact hK
theorem PDp.vsl {g : Heap} {p size late now : Nat} {A : List Si} {mw : Nat} {kv : List (Int × Value)} {bs : List Nat} {ck : Nat} (hP : PDp g p size late now A mw kv bs ck) (k : Nat) :
    SlB Si.enc 4 g (vof kv k) (opn size late now A k) ∧ blkOf (vof kv k) ≠ some p ∧ blkOf (vof kv k) ≠ some mw := by
  unfold vof
  cases hl : look kv (k : Int) with
  | none => rw [hP.no k hl]; exact ⟨SlB.nil, by simp [blkOf], by simp [blkOf]⟩
  | some v =>
    obtain ⟨k', x, e, h1, h2, h3, h4⟩ := hP.so _ _ hl
    obtain rfl : k = k' := oM
    exact ⟨h4, by simp [h1, h2], by simp [h1, h3]⟩
def two (p m : Nat) (h : Heap) : Heap := fun b => if b = p ∨ b = m then h b else none
theorem two_le {p m : Nat} {h h' : Heap} (h1 : ∀ o, h p = some o → h' p = some o) (h2 : ∀ o, h m = some o → h' m = some o) : Heap.le (two p m h) h' := by
  intro b o hb
  unfold two at hb
  split at hb
  · rename_i e
    rcases e with rfl | rfl
    · exact h1 o hb
    · exact h2 o hb
  · cases hb
theorem objAt.nsetE {h : Heap} {b m : Nat} {o : Obj} {cs : List Value} (ho : objAt h ⟨b, 0, none⟩ cs) (hm : b ≠ m) : objAt (h.set m o) ⟨b, 0, none⟩ cs := but.obj (b := m) (fun x hx => Heap.set_ne hx) hm ho
def S37 (N : Num) : Spec := fun args h K => ∃ g p, ∃ size late now : Nat, ∃ A s, args = [.pointer (some ⟨p, 0, none⟩), aggS s] ∧ PD g p size late now A ∧ Heap.le g h ∧ 0 < size ∧ size ≤ 1000 ∧ late ≤ 1000 ∧ now ≤ 1000 ∧ A.length < 2000 ∧
  (adF size late now s ≠ 0 → K (errV N (adF size late now s)) h) ∧ (adF size late now s = 0 → ∀ g' h', Step g h g' h' → PD g' p size late now (A ++ [s]) → K .nilIface h')
theorem F37_ok {N : Num} {Γ : Ctx} [GoodC Γ] : Sat (S37 N) (SF N Γ F37) := by
  rintro _ h K ⟨g, p, size, late, now, A, s, rfl, ⟨mw, kv, bs, ck, hP⟩, hg, hs1, hs2, hl, hn, hA, hK1, hK2⟩
  obtain ⟨c0, c1, c2, c3, c4⟩ := hP.read hg
  refine i_fun rfl ?_
  simp only [F37, Ze, Nat.reduceSub, Nat.reduceAdd, aggS]
  unfold adF at hK1 hK2
  refine sw1 @c2 ?_
  refine i_cond (fun cc => ?_) (fun cc => ?_)
  · have hb : adBad now s := by unfold adBad; omega
    rw [if_pos hb] at hK1
    refine sw0 ?_
    exact hK1 oM
  have hb : ¬ adBad now s := by unfold adBad; omega
  rw [if_neg hb] at hK1 hK2
  unfold adBad at hb
  obtain ⟨tn, htn⟩ : ∃ tn : Nat, s.time = tn := ⟨s.time.toNat, oM⟩
  have hep : ep size s = tn / size := by unfold ep; rw [htn, Int.toNat_natCast]
  have hq : Int.tdiv (tn : Int) (size : Int) = ((tn / size : Nat) : Int) := rfl
  have htnl : tn / size ≤ tn := Nat.div_le_self _ _
  have hwq : IntKind.i64.wrap ((tn / size : Nat) : Int) = ((tn / size : Nat) : Int) := w64 oM oM
  have hsz0 : ((size : Int) = 0) = False := by rw [eq_iff_iff]; simp; omega
  rw [hep] at hK1 hK2
  rw [htn]
  generalize hk : tn / size = k at *
  refine sw5 @c0 @hq @hwq @hsz0 @c3 ?_
  refine i_cond (fun cc2 => ?_) (fun cc2 => ?_)
  · rw [if_pos oM] at hK1
    refine sw0 ?_
    exact hK1 oM
  rw [if_neg oM] at hK2
  have hm := (hP.wm.le hg).lkpE (k : Int)
  obtain ⟨hvs, hvp, hvm⟩ := hP.vsl k
  have OV := hvs.one
  refine sw2 @c4 @hm ?_
  have htwo : ∀ H : Heap, (∀ o, h p = some o → H p = some o) → (∀ o, h mw = some o → H mw = some o) → Heap.le (two p mw h) H := fun H h1 h2 => two_le h1 h2
  have htp : ∀ {x : Value}, h.cell ((⟨p, 0, none⟩ : Addr).add 4) = some x → (two p mw h).cell ((⟨p, 0, none⟩ : Addr).add 4) = some x := fun {x} hx => by
    have : two p mw h p = h p := by simp [two]
    simpa [Heap.cell, Heap.cells, this, Addr.add] using hx
  have hmt : o2V (two p mw h) (.lkp .int (.slice none 0 0)) (.v (.map (some mw))) (.v (.int .i64 (k : Int))) = some (.v (vof kv k)) := by
    obtain ⟨es, q1, q2⟩ := hP.wm.le hg
    exact MapB.lkpE (h := two p mw h) ⟨es, by simp [two, q1], q2⟩ k
  refine i_bslB Si.enc 4 Si.enc_len [s] (by simp [Si.enc, htn]) rfl (by simp [maxLen]) fun x1 b1 h1 hle1 hb1 hx1 hS1 => ?_
  have O2 := hS1.one
  have hle2 := htwo h1 (fun o => hle1 p o) (fun o => hle1 mw o)
  refine i_lex (two p mw h) (htwo h (fun o h => h) (fun o h => h)) ?_ (le_one hle2) ?_
  · intro l' hl'
    simp only [List.mem_cons, List.not_mem_nil, or_false] at hl'
    have c4' := htp c4
    rcases hl' with rfl | rfl | rfl
    · exact ⟨true, rfl, fun _ => ⟨.v (.map (some mw)), by try simp (disch := first | omega | (simp only [PL]; omega)) only [Zr, simprocAttr, -reduceIte, c4']⟩⟩
    · exact ⟨true, rfl, fun _ => ⟨.v (.map (some mw)), by try simp (disch := first | omega | (simp only [PL]; omega)) only [Zr, simprocAttr, -reduceIte, c4']⟩⟩
    · exact ⟨true, rfl, fun _ => ⟨.v (vof kv k), by try simp (disch := first | omega | (simp only [PL]; omega)) only [Zr, simprocAttr, -reduceIte, c4', hmt]⟩⟩
  refine sw4 O2.1 O2.2 OV.1 OV.2 ?_
  have hln : (opn size late now A k).length ≤ A.length := by unfold opn; split; exact List.length_filter_le _ _; simp
  refine i_appB (enc := Si.enc) (sz := 4) (g := g) (l := opn size late now A k) (l' := [s]) Si.enc_len (by simp [Si.enc, one]) hvs (hg.trans hle1) (SlB.sl Si.enc_len (hS1.le (fr_le _ _))) (by simp; omega) fun v2 h2 g2 hS2 St2 e1 e2 e3 => ?_
  have hgp : g p ≠ none := by obtain ⟨_, c, t, q, _⟩ := hP.obj; rw [q]; simp
  have hgm : g mw ≠ none := by obtain ⟨es, q, _⟩ := hP.wm; rw [q]; simp
  have hv2n : ∀ b, g b ≠ none → blkOf (vof kv k) ≠ some b → blkOf v2 ≠ some b := by
    intro b hb hnb e
    rcases e2 b e with h5 | h5
    · exact hnb h5
    · exact hb (le_none (hg.trans hle1) b h5)
  have hv2p := hv2n p hgp hvp
  have hv2m := hv2n mw hgm hvm
  have hsame : ∀ b, g b ≠ none → blkOf (vof kv k) ≠ some b → g2 b = g b := fun b hb hnb => e1 b hnb (hv2n b hb hnb)
  have hwm2 : MapB encKI id g2 mw kv bs ck := by
    obtain ⟨es, q1, q2⟩ := hP.wm
    exact ⟨es, by rw [hsame mw hgm hvm]; exact q1, q2⟩
  have O3 := hS2.one
  have hle3 : Heap.le (two p mw h) h2 := htwo h2 (fun o hx => e3 p o (hle1 p o hx) hvp) (fun o hx => e3 mw o (hle1 mw o hx) hvm)
  refine sw0 ?_
  refine i_lew (le_one hle3) ?_
  refine sw2 O3.1 O3.2 ?_
  refine i_mupd (ek := encKI) (ev := (id : Value → Value)) hwm2 St2.le (k : Int) v2 fun o bs' ck' hm' St' _ => ?_
  refine sw0 ?_
  obtain ⟨x2, hx2⟩ : ∃ x, blkOf v2 = some x := by
    obtain ⟨a, cap, rfl, q1, q2, q3⟩ := hS2
    rcases q3 with ⟨_, e, _⟩ | ⟨b, c, t, rfl, _⟩
    · simp at e
    · exact ⟨b, rfl⟩
  have hopn : ∀ k' : Nat, opn size late now (A ++ [s]) k' = if k' = k then opn size late now A k ++ [s] else opn size late now A k' := by
    intro k'
    unfold opn
    by_cases hkk : k' = k
    · subst hkk
      rw [if_pos rfl, if_pos oM, if_pos oM, List.filter_append]
      congr 1
      rw [List.filter_cons_of_pos (by simp [hep])]; rfl
    · rw [if_neg hkk]
      by_cases hc : clos size late now ≤ k'
      · rw [if_pos hc, if_pos hc, List.filter_append]
        have : [s].filter (fun s => decide (ep size s = k')) = [] := by rw [List.filter_cons_of_neg (by simp [hep]; omega)]; rfl
        rw [this, List.append_nil]
      · rw [if_neg hc, if_neg hc]
  refine hK2 rfl _ _ (((Step.more hg hle1).trans St2).trans St') ⟨mw, _, _, _, ?_, hm', hP.pm, fun k' hk' => ?_, fun n v hv => ?_, fun n n' v v' hv hv' he => ?_⟩
  · exact (objAt_kept hP.obj fun o' ho' => by rw [hsame p hgp hvp]; exact ho').nsetE hP.pm
  · rw [look_upd] at hk'
    split at hk'
    · cases hk'
    · rename_i hne
      rw [hopn k', if_neg oM]; exact hP.no k' hk'
  · rw [look_upd] at hv
    split at hv
    · rename_i e
      cases hv
      refine ⟨k, x2, e, hx2, fun e' => hv2p (by rw [hx2, e']), fun e' => hv2m (by rw [hx2, e']), ?_⟩
      rw [hopn k, if_pos rfl]
      exact hS2.same fun b hb => Heap.set_ne (by rintro rfl; exact hv2m hb)
    · rename_i hne
      obtain ⟨k', x, e, q1, q2, q3, q4⟩ := hP.so n v hv
      refine ⟨k', x, e, q1, q2, q3, ?_⟩
      rw [hopn k', if_neg oM]
      refine q4.same fun b hb => ?_
      rw [Heap.set_ne (by rintro rfl; rw [q1] at hb; exact q3 (by simpa using hb))]
      refine hsame b (q4.mem hb) fun e' => hne ?_
      unfold vof at e'
      cases hl : look kv (k : Int) with
      | none => rw [hl] at e'; simp [blkOf] at e'
      | some u =>
        rw [hl] at e'
        exact hP.inj n k v u hv hl (by rw [hb]; exact e'.symm)
  · rw [look_upd] at hv hv'
    have hno : ∀ n v, look kv n = some v → n ≠ (k : Int) → blkOf v ≠ blkOf v2 := by
      intro n v hv hne he
      obtain ⟨k', x, e, q1, q2, q3, q4⟩ := hP.so n v hv
      have hgx := q4.mem q1
      refine hv2n x hgx (fun e' => ?_) (by rw [← he]; exact q1)
      unfold vof at e'
      cases hl : look kv (k : Int) with
      | none => rw [hl] at e'; simp [blkOf] at e'
      | some u =>
        rw [hl] at e'
        exact hne (hP.inj n k v u hv hl (by rw [q1]; exact e'.symm))
    by_cases h1 : n = (k : Int)
    · by_cases h2 : n' = (k : Int)
      · omega
      · rw [if_pos h1] at hv; rw [if_neg h2] at hv'
        cases hv
        exact absurd he.symm (hno n' v' hv' h2)
    · rw [if_neg h1] at hv
      by_cases h2 : n' = (k : Int)
      · rw [if_pos h2] at hv'
        cases hv'
        exact absurd he (hno n v hv h1)
      · rw [if_neg h2] at hv'
        exact hP.inj n n' v v' hv hv' he
end Go.Cw
namespace Go.Cw
open Go
section
variable {κ ν : Type} [DecidableEq κ]
theorem zip_erase {α β γ : Type} (f : α → β → γ) : ∀ (l : List α) (m : List β) (j : Nat), l.length = m.length → List.zipWith f (l.eraseIdx j) (m.eraseIdx j) = (List.zipWith f l m).eraseIdx j := by
  intro l
  induction l with
  | nil => intro m j h; cases m <;> simp at h ⊢
  | cons a l ih =>
    intro m j h
    cases m with
    | nil => simp at h
    | cons b m =>
      cases j with
      | zero => simp
      | succ j => simp only [List.eraseIdx_cons_succ, List.zipWith_cons_cons]; rw [ih m j (by simpa using h)]
theorem look_erase : ∀ (kv : List (κ × ν)) (k : κ) (i j : Nat) (x : ν), (kv.map (·.1)).Nodup → lookI kv k i = some (j, x) → i ≤ j ∧ j - i < kv.length ∧ ∀ k', look (kv.eraseIdx (j - i)) k' = if k' = k then none else look kv k' := by
  intro kv
  induction kv with
  | nil => intro k i j x _ h; simp [lookI] at h
  | cons p r ih =>
    intro k i j x hn h
    have hn' := List.nodup_cons.1 (show (p.1 :: r.map (·.1)).Nodup by simpa using hn)
    simp only [lookI] at h
    split at h
    · rename_i e
      simp only [Option.some.injEq, Prod.mk.injEq] at h
      obtain ⟨rfl, rfl⟩ := h
      refine ⟨Nat.le_refl _, by simp, fun k' => ?_⟩
      rw [Nat.sub_self, List.eraseIdx_cons_zero, look_cons]
      by_cases hk : k' = k
      · subst hk
        rw [if_pos rfl]
        cases hl : look r k' with
        | none => rfl
        | some u =>
          have := look_mem hl
          exact absurd (List.mem_map.2 ⟨_, this, rfl⟩) (by rw [e]; exact hn'.1)
      · rw [if_neg hk, if_neg (by rw [← e]; exact hk)]
    · rename_i e
      obtain ⟨h1, h2, h3⟩ := ih k (i + 1) j x hn'.2 h
      have hj : j - i = (j - (i + 1)) + 1 := oM
      refine ⟨oM, by simp; omega, fun k' => ?_⟩
      rw [hj, List.eraseIdx_cons_succ, look_cons, look_cons, h3 k']
      by_cases hk : k' = k
      · subst hk
        rw [if_neg e, if_pos rfl, if_pos rfl]
      · rw [if_neg hk, if_neg hk]
theorem i_mdel {kb : Bk} {ek : κ → Value} [KeyOk kb ek] {ev : ν → Value} {N : Num} {Γ : Ctx} {g h : Heap} {m : Nat} {kv : List (κ × ν)} {bs : List Nat} {ck : Nat} (hm : MapB ek ev g m kv bs ck) (hg : Heap.le g h) (k : κ) {K : Value → Heap → Prop}
    (hK : ∀ g' h' kv' bs', MapB ek ev g' m kv' bs' ck → Heap.le g' h' → (∀ k', look kv' k' = if k' = k then none else look kv k') → (∀ b, b ≠ m → g' b = g b) → (∀ b, b ≠ m → h' b = h b) → K undef h') : efW N Γ (.mdel kb) [.map (some m), ek k] h K := by
  obtain ⟨es, h1, h2, h3, h4, h5, h6⟩ := hm
  have hgm : g m ≠ none := by rw [h1]; simp
  refine ⟨es, ck, hg _ _ h1, _, by rw [h2]; exact findE_eq k kv bs 0 h3, ?_⟩
  cases hl : lookI kv k 0 with
  | none =>
    simp only [Option.map_none]
    refine hK g h kv bs ⟨es, h1, h2, h3, h4, h5, h6⟩ hg (fun k' => ?_) (fun b _ => rfl) fun b _ => rfl
    by_cases hk : k' = k
    · subst hk
      rw [if_pos rfl]; unfold look; rw [hl]; rfl
    · rw [if_neg hk]
  | some p =>
    obtain ⟨j, x⟩ := p
    simp only [Option.map_some]
    obtain ⟨_, hjl, hlk⟩ := look_erase kv k 0 j x h6 hl
    rw [Nat.sub_zero] at hjl hlk
    refine hK (g.set m (.map (es.eraseIdxIfInBounds j) ck)) _ (kv.eraseIdx j) (bs.eraseIdx j) ⟨_, Heap.set_eq, ?_, ?_, ?_, fun b hb => h5 b (List.mem_of_mem_eraseIdx hb), ?_⟩ ?_ hlk (fun b hb => Heap.set_ne hb) fun b hb => Heap.set_ne hb
    · rw [zip_erase _ _ _ _ h3.symm, ← h2, Array.eraseIdxIfInBounds]
      have : j < es.size := by
        have := congrArg List.length h2
        simp at this; omega
      simp [this]
    · rw [List.length_eraseIdx, List.length_eraseIdx, h3]
    · exact h4.sublist (List.eraseIdx_sublist _ _)
    · exact h6.sublist ((List.eraseIdx_sublist kv j).map _)
    · exact (Step.set hg hgm _).le
end
end Go.Cw
namespace Go.Cw
open Go Go.Sort Go.Proofs
def Less (N : Num) (Γ : Ctx) (F : Heap) (v : Value) (fl : Nat) (cl : Array Value) (lt : Si → Si → Bool) (n : Nat) : Prop :=
  ∀ (H : Heap) (d : Array Si) (i j : Nat) (K : Value → Heap → Prop), d.size = n → Rw F H v d → i < n → j < n → (∀ H', Heap.le H H' → K (.bool (lt d[i]! d[j]!)) H') → efW N Γ .cal [.func (.func fl) #[] cl, .int .i64 i, .int .i64 j] H K
def S61 (N : Num) (Γ : Ctx) : Spec := fun args h K => ∃ F v fl cl lt d, args = [.iface (N.tid 64) v, .func (.func fl) #[] cl] ∧ Less N Γ F v fl cl lt d.size ∧ d.size ≤ 100000000 ∧ SWO lt ∧ Rw F h v d ∧
  ∀ h' d', Rw F h' v d' → PermIn 0 d.size d d' → SortedIn lt 0 d.size d' → kv v h h' → K (.tuple #[]) h'
end Go.Cw
